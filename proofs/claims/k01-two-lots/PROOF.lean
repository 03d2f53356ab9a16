import PyProof.Rows.All
import Wide.All
import OpenK.AllK
import Wide.FinOn
import HandS.ForMost
import HandS.ForExc
import HandS.TupAny
import HandS.Style
import HandS.Wide
import HandS.IsInst
import HandS.Conv
import HandS.Deep
import HandS.Flow
import HandS.Zip
import HandS.Defaults
import HandS.Dict
import PyProof.P3In
import PyProof.ReprRoads
import HandS.SetFor
import HandS.TupSets
import HandS.SortInts
import HandS.Ends
import HandS.HeadHook2
import PySem.Challenge.RW_whomet_k01_whole_two_lots
import PyProof.ReprLen
import HandS.WideBits
import PyProof.Rows.BitMore
import KE.BitLaws
import KE.KStateDown
import HandS.Head0
import HandS.Head1
import HandS.Head2
import HandS.HeadHook1
set_option Elab.async false
set_option linter.all false
set_option maxRecDepth 100000
set_option maxHeartbeats 4000000
/-! A layer of plain data over the hand layer: what an expression is worth as a function of data. -/
namespace Dv
open PySem PySem.Spec PyProof.Rows L2

/-- plain data: f tells that a list is fresh (nobody else holds it) -/
inductive D where
  | non
  | bl (b : Bool)
  | int (i : Int)
  | str (s : Str)
  | ty (n : String)
  | adr (a : Addr)
  | loc (n : Nat)
  | tup (xs : List D)
  | lst (f : Bool) (xs : List D)
  | rol (xs : List D)
  | dct (f : Bool) (kvs : List (D × D))
  | obj (c : Nat) (fs : List D)
  | err (c : Nat) (fs : List D)
  deriving Inhabited

abbrev Store := List (Option D)
abbrev Rho := List (Option D)

inductive Res (α : Type) where
  | ok (a : α) (S : Store)
  | exc (c : Nat) (fs : List D) (S : Store)
  | bad

/-! ### how data stands in the heap -/
abbrev Ow := Addr → Prop

/-- a list that is read alone: locked, or of the written part -/
def Ro (K : PySem.W.Frag) (H : Hp) (a : Addr) (xs : List V) : Prop :=
  (∃ o, H a = some (.frz o (.lst xs))) ∨
    ∃ (o : Obj) (its : Array Value) (n : Nat), K.lookup a = some o ∧ o.cls = .type "list" ∧ o.dict = none ∧ o.data = .seq its n ∧ its.size ≤ sizeLine ∧ Vals xs its.toList
theorem Ro.seq {K : PySem.W.Frag} {H : Hp} {a : Addr} {xs : List V} (h : Ro K H a xs) : SqL K H a xs := by
  rcases h with h | h
  · exact .inl (.inr h)
  · exact .inr h

/-- a dict's key as data -/
def keyD : Key → D
  | .inl i => .int i
  | .inr x => .str x
mutual
inductive Rp (K : PySem.W.Frag) (H : Hp) (O : Ow) : V → D → Prop
  | non : Rp K H O .non .non
  | bl (b : Bool) : Rp K H O (.bl b) (.bl b)
  | int (i : Int) : Rp K H O (.int i) (.int i)
  | str (x : Str) : Rp K H O (.str x) (.str x)
  | ty (n : String) : Rp K H O (.ty n) (.ty n)
  | adr (a : Addr) : Rp K H O (.ref a) (.adr a)
  | tup {a : Addr} {xs : List V} {ds : List D} : SqT K H a xs → RpAll K H O xs ds → Rp K H O (.ref a) (.tup ds)
  | lst {a : Addr} {xs : List V} {ds : List D} {f : Bool} : ¬ O a → H a = some (.lst xs) → RpAll K H O xs ds → Rp K H O (.ref a) (.lst f ds)
  | rol {a : Addr} {xs : List V} {ds : List D} : Ro K H a xs → RpAll K H O xs ds → Rp K H O (.ref a) (.rol ds)
  | dct {a : Addr} {kvs : List (Key × V)} {ds : List (D × D)} {f : Bool} : ¬ O a → H a = some (.dK kvs) → RpKV K H O kvs ds → Rp K H O (.ref a) (.dct f ds)
inductive RpAll (K : PySem.W.Frag) (H : Hp) (O : Ow) : List V → List D → Prop
  | nil : RpAll K H O [] []
  | cons {v : V} {d : D} {vs : List V} {ds : List D} : Rp K H O v d → RpAll K H O vs ds → RpAll K H O (v :: vs) (d :: ds)
inductive RpKV (K : PySem.W.Frag) (H : Hp) (O : Ow) : List (Key × V) → List (D × D) → Prop
  | nil : RpKV K H O [] []
  | cons {k : Key} {v : V} {d : D} {vs : List (Key × V)} {ds : List (D × D)} : Rp K H O v d → RpKV K H O vs ds → RpKV K H O ((k, v) :: vs) ((keyD k, d) :: ds)
end

/-- what an owned address may hold -/
def isMu : HO → Bool
  | .lst _ => true
  | .dK _ => true
  | .dT _ => true
  | .set _ _ => true
  | _ => false

/-- all that is not owned is as it was -/
def Ext (O : Ow) (H H' : Hp) : Prop := ∀ a o, H a = some o → ¬ O a → H' a = some o
/-- new owners were free -/
def Grow (H : Hp) (O O' : Ow) : Prop := ∀ a, O' a → O a ∨ H a = none
def Owns (H : Hp) (O : Ow) : Prop := ∀ a, O a → ∃ o, H a = some o ∧ isMu o = true

theorem Ext.refl (O : Ow) (H : Hp) : Ext O H H := fun _ _ h _ => h
theorem Ext.of_same {O : Ow} {H H' : Hp} (h : Same H H') : Ext O H H' := fun a o e _ => h a o e
theorem Grow.refl (H : Hp) (O : Ow) : Grow H O O := fun _ h => .inl h
theorem Owns.no {H H' : Hp} {O : Ow} (ow : Owns H O) (e : Ext O H H') {a : Addr} {o : HO} (q : H a = some o) (m : isMu o = false) : H' a = some o := e a o q fun z => by
  obtain ⟨o', q', m'⟩ := ow a z
  rw [q] at q'; cases q'
  rw [m] at m'; cases m'

theorem SqT.ext {K : PySem.W.Frag} {H H' : Hp} {O : Ow} {a : Addr} {xs : List V} (ow : Owns H O) (e : Ext O H H') (h : SqT K H a xs) : SqT K H' a xs := by
  rcases h with (h | ⟨o, h⟩) | h
  · exact .inl (.inl (ow.no e h rfl))
  · exact .inl (.inr ⟨o, ow.no e h rfl⟩)
  · exact .inr h
theorem Ro.ext {K : PySem.W.Frag} {H H' : Hp} {O : Ow} {a : Addr} {xs : List V} (ow : Owns H O) (e : Ext O H H') (h : Ro K H a xs) : Ro K H' a xs := by
  rcases h with ⟨o, h⟩ | h
  · exact .inl ⟨o, ow.no e h rfl⟩
  · exact .inr h

section
variable {K : PySem.W.Frag} {H H' : Hp} {O O' : Ow}
mutual
theorem Rp.ext (ow : Owns H O) (e : Ext O H H') (g : Grow H O O') : ∀ {v : V} {d : D}, Rp K H O v d → Rp K H' O' v d
  | _, _, .non => .non
  | _, _, .bl b => .bl b
  | _, _, .int i => .int i
  | _, _, .str x => .str x
  | _, _, .ty n => .ty n
  | _, _, .adr a => .adr a
  | _, _, .tup h r => .tup (SqT.ext ow e h) (RpAll.ext ow e g r)
  | _, _, .lst n h r => .lst (fun z => (g _ z).elim n fun q => by rw [h] at q; cases q) (e _ _ h n) (RpAll.ext ow e g r)
  | _, _, .rol h r => .rol (h.ext ow e) (RpAll.ext ow e g r)
  | _, _, .dct n h r => .dct (fun z => (g _ z).elim n fun q => by rw [h] at q; cases q) (e _ _ h n) (RpKV.ext ow e g r)
theorem RpAll.ext (ow : Owns H O) (e : Ext O H H') (g : Grow H O O') : ∀ {vs : List V} {ds : List D}, RpAll K H O vs ds → RpAll K H' O' vs ds
  | _, _, .nil => .nil
  | _, _, .cons h r => .cons (Rp.ext ow e g h) (RpAll.ext ow e g r)
theorem RpKV.ext (ow : Owns H O) (e : Ext O H H') (g : Grow H O O') : ∀ {vs : List (Key × V)} {ds : List (D × D)}, RpKV K H O vs ds → RpKV K H' O' vs ds
  | _, _, .nil => .nil
  | _, _, .cons h r => .cons (Rp.ext ow e g h) (RpKV.ext ow e g r)
end
theorem RpAll.length : ∀ {vs : List V} {ds : List D}, RpAll K H O vs ds → vs.length = ds.length
  | _, _, .nil => rfl
  | _, _, .cons _ r => by simp [RpAll.length r]
theorem RpAll.get : ∀ {vs : List V} {ds : List D} {i : Nat} {d : D}, RpAll K H O vs ds → ds[i]? = some d → ∃ v, vs[i]? = some v ∧ Rp K H O v d
  | _, _, _, _, .nil, e => by simp at e
  | _, _, 0, _, .cons r _, e => by simp at e; subst e; exact ⟨_, rfl, r⟩
  | _, _, i + 1, d, .cons _ t, e => by
    obtain ⟨u, h1, h2⟩ := RpAll.get (i := i) (d := d) t (by simpa using e)
    exact ⟨u, by simpa using h1, h2⟩
theorem RpAll.append : ∀ {vs ws : List V} {ds es : List D}, RpAll K H O vs ds → RpAll K H O ws es → RpAll K H O (vs ++ ws) (ds ++ es)
  | _, _, _, _, .nil, s => s
  | _, _, _, _, .cons r t, s => .cons r (RpAll.append t s)
theorem RpAll.take : ∀ {vs : List V} {ds : List D} (n : Nat), RpAll K H O vs ds → RpAll K H O (vs.take n) (ds.take n)
  | _, _, 0, _ => .nil
  | _, _, _ + 1, .nil => .nil
  | _, _, n + 1, .cons r t => .cons r (RpAll.take n t)
theorem RpAll.drop : ∀ {vs : List V} {ds : List D} (n : Nat), RpAll K H O vs ds → RpAll K H O (vs.drop n) (ds.drop n)
  | _, _, 0, r => r
  | _, _, _ + 1, .nil => .nil
  | _, _, n + 1, .cons _ t => RpAll.drop n t
theorem RpAll.set {v : V} {d : D} (r : Rp K H O v d) : ∀ {vs : List V} {ds : List D} (i : Nat), RpAll K H O vs ds → RpAll K H O (vs.set i v) (ds.set i d)
  | _, _, _, .nil => .nil
  | _, _, 0, .cons _ t => .cons r t
  | _, _, i + 1, .cons q t => .cons q (RpAll.set r i t)
theorem RpAll.eraseIdx : ∀ {vs : List V} {ds : List D} (i : Nat), RpAll K H O vs ds → RpAll K H O (vs.eraseIdx i) (ds.eraseIdx i)
  | _, _, _, .nil => .nil
  | _, _, 0, .cons _ t => t
  | _, _, i + 1, .cons q t => .cons q (RpAll.eraseIdx i t)
theorem RpAll.reverse {vs : List V} {ds : List D} (h : RpAll K H O vs ds) : RpAll K H O vs.reverse ds.reverse := by
  induction vs generalizing ds with
  | nil => cases h; exact .nil
  | cons v vs ih =>
    cases h with
    | cons r t =>
      rw [List.reverse_cons, List.reverse_cons]
      exact (ih t).append (.cons r .nil)
theorem RpAll.ints : ∀ {ns : List Int} {vs : List V}, RpAll K H O vs (ns.map D.int) → vs = ns.map V.int
  | [], _, h => by cases h; rfl
  | n :: ns, _, h => by
    cases h with
    | cons r t => cases r; rw [RpAll.ints t]; rfl
theorem RpAll.bls : ∀ {ns : List Bool} {vs : List V}, RpAll K H O vs (ns.map D.bl) → vs = ns.map V.bl
  | [], _, h => by cases h; rfl
  | n :: ns, _, h => by
    cases h with
    | cons r t => cases r; rw [RpAll.bls t]; rfl
theorem rpAll_ints : ∀ ns : List Int, RpAll K H O (ns.map V.int) (ns.map D.int)
  | [] => .nil
  | n :: ns => .cons (.int n) (rpAll_ints ns)
end

/-! ### the store -/
/-- where the cells stand; ph: lists that are being made, which nobody knows -/
structure Wy where
  loc : Nat → Addr
  ph : Ow
def OwC (A : Wy) (S : Store) : Ow := fun a => ∃ n d, S[n]? = some (some d) ∧ A.loc n = a
def Own (A : Wy) (S : Store) : Ow := fun a => OwC A S a ∨ A.ph a
theorem Ext.own {A : Wy} {S : Store} {H H' : Hp} (e : Ext (OwC A S) H H') : Ext (Own A S) H H' := fun a o h n => e a o h fun z => n (.inl z)
/-- what a cell holds -/
inductive Cell (K : PySem.W.Frag) (H : Hp) (O : Ow) : Addr → D → Prop
  | lst {a : Addr} {f : Bool} {xs : List V} {ds : List D} : H a = some (.lst xs) → RpAll K H O xs ds → Cell K H O a (.lst f ds)
  | dct {a : Addr} {f : Bool} {kvs : List (Key × V)} {ds : List (D × D)} : H a = some (.dK kvs) → RpKV K H O kvs ds → Cell K H O a (.dct f ds)
structure Cells (K : PySem.W.Frag) (A : Wy) (S : Store) (H : Hp) : Prop where
  at_ : ∀ n d, S[n]? = some (some d) → Cell K H (Own A S) (A.loc n) d
  inj : ∀ n m d e, S[n]? = some (some d) → S[m]? = some (some e) → A.loc n = A.loc m → n = m
  phs : ∀ a, A.ph a → ∃ o, H a = some o ∧ isMu o = true
  apart : ∀ a, A.ph a → ¬ OwC A S a
theorem Cell.mu {K : PySem.W.Frag} {H : Hp} {O : Ow} {a : Addr} {d : D} (c : Cell K H O a d) : ∃ o, H a = some o ∧ isMu o = true := by
  cases c with
  | lst h _ => exact ⟨_, h, rfl⟩
  | dct h _ => exact ⟨_, h, rfl⟩
theorem Cells.owns {K : PySem.W.Frag} {A : Wy} {S : Store} {H : Hp} (c : Cells K A S H) : Owns H (Own A S) := by
  rintro a (⟨n, d, h, rfl⟩ | h)
  · exact (c.at_ n d h).mu
  · exact c.phs a h

/-- the field of an error's class -/
def cfn : Nat → Str
  | 9 => "spot"
  | 10 => "given"
  | 11 => "wanted"
  | 12 => "done"
  | 13 => "limit"
  | 14 => "reason"
  | _ => ""
/-- what an error of the class number c keeps, by its own dict -/
def ExAt (K : PySem.W.Frag) (H : Hp) (O : Ow) (c : Nat) (dd : Option Addr) (fs : List D) : Prop :=
  fs = [] ∨ ∃ x v f, fs = [f] ∧ dd = some x ∧ H x = some (.xd [(cfn c, v)]) ∧ Rp K H O v f
abbrev ZT := V → Nat → Option Addr → Prop
/-- a value of a slot, of an expression -/
def RpS (K : PySem.W.Frag) (Z : ZT) (A : Wy) (S : Store) (H : Hp) (v : V) (d : D) : Prop :=
  (∃ n e, d = .loc n ∧ v = .ref (A.loc n) ∧ S[n]? = some (some e)) ∨ Rp K H (Own A S) v d ∨ ∃ c fs dd, d = .err c fs ∧ Z v c dd ∧ ExAt K H (Own A S) c dd fs

/-- the same cells live -/
def Lives (S S' : Store) : Prop := ∀ n : Nat, (S'[n]?.join).isSome = (S[n]?.join).isSome
theorem Lives.refl (S : Store) : Lives S S := fun _ => rfl
theorem Lives.trans {S S1 S2 : Store} (a : Lives S S1) (b : Lives S1 S2) : Lives S S2 := fun n => (b n).trans (a n)
theorem live_iff {S : Store} {n : Nat} : (S[n]?.join).isSome = true ↔ ∃ d, S[n]? = some (some d) := by
  cases h : S[n]? with
  | none => simp
  | some x => cases x <;> simp
theorem Lives.ownC {S S' : Store} (l : Lives S S') (A : Wy) : OwC A S' = OwC A S := by
  funext a
  refine propext ⟨?_, ?_⟩
  · rintro ⟨n, d, h, e⟩
    have := live_iff.mp ((l n) ▸ live_iff.mpr ⟨d, h⟩)
    obtain ⟨d', h'⟩ := this
    exact ⟨n, d', h', e⟩
  · rintro ⟨n, d, h, e⟩
    have := live_iff.mp ((l n).symm ▸ live_iff.mpr ⟨d, h⟩)
    obtain ⟨d', h'⟩ := this
    exact ⟨n, d', h', e⟩
theorem Lives.own {S S' : Store} (l : Lives S S') (A : Wy) : Own A S' = Own A S := by
  unfold Own
  rw [l.ownC A]
theorem Lives.get {S S' : Store} (l : Lives S S') {n : Nat} {d : D} (h : S[n]? = some (some d)) : ∃ d', S'[n]? = some (some d') :=
  live_iff.mp ((l n).symm ▸ live_iff.mpr ⟨d, h⟩)

/-- behind an expression -/
structure Pst (K : PySem.W.Frag) (A : Wy) (S : Store) (H : Hp) (S' : Store) (H' : Hp) : Prop where
  ext : Ext (OwC A S) H H'
  lives : Lives S S'
  len : S'.length = S.length
  cells : Cells K A S' H'

section
variable {K : PySem.W.Frag} {Z : ZT} {A : Wy} {S S1 S2 : Store} {H H1 H2 : Hp}
theorem ExAt.ext {O O' : Ow} {H H' : Hp} {c : Nat} {dd : Option Addr} {fs : List D} (ow : Owns H O) (e : Ext O H H') (g : Grow H O O') (h : ExAt K H O c dd fs) : ExAt K H' O' c dd fs := by
  rcases h with h | ⟨x, v, f, h1, h2, h3, h4⟩
  · exact .inl h
  · exact .inr ⟨x, v, f, h1, h2, ow.no e h3 rfl, h4.ext ow e g⟩
theorem Pst.refl (c : Cells K A S H) : Pst K A S H S H := ⟨.refl _ _, .refl _, rfl, c⟩
theorem Pst.trans (a : Pst K A S H S1 H1) (b : Pst K A S1 H1 S2 H2) : Pst K A S H S2 H2 :=
  ⟨fun x o h n => b.ext x o (a.ext x o h n) (by rw [a.lives.ownC A]; exact n), a.lives.trans b.lives, b.len.trans a.len, b.cells⟩
theorem Pst.own (a : Pst K A S H S1 H1) : Own A S1 = Own A S := a.lives.own A
/-- an older value stands -/
theorem Rp.step {v : V} {d : D} (c : Cells K A S H) (p : Pst K A S H S1 H1) (h : Rp K H (Own A S) v d) : Rp K H1 (Own A S1) v d := by
  rw [p.own]
  exact h.ext c.owns p.ext.own (.refl _ _)
theorem RpAll.step {vs : List V} {ds : List D} (c : Cells K A S H) (p : Pst K A S H S1 H1) (h : RpAll K H (Own A S) vs ds) : RpAll K H1 (Own A S1) vs ds := by
  rw [p.own]
  exact h.ext c.owns p.ext.own (.refl _ _)
theorem ExAt.step {c : Nat} {dd : Option Addr} {fs : List D} (c0 : Cells K A S H) (p : Pst K A S H S1 H1) (h : ExAt K H (Own A S) c dd fs) : ExAt K H1 (Own A S1) c dd fs := by
  rw [p.own]
  exact h.ext c0.owns p.ext.own (.refl _ _)
theorem RpS.step {v : V} {d : D} (c : Cells K A S H) (p : Pst K A S H S1 H1) (h : RpS K Z A S H v d) : RpS K Z A S1 H1 v d := by
  rcases h with ⟨n, e, h1, h2, h3⟩ | h | ⟨k, fs, dd, h1, h2, h3⟩
  · obtain ⟨e', h'⟩ := p.lives.get h3
    exact .inl ⟨n, e', h1, h2, h'⟩
  · exact .inr (.inl (h.step c p))
  · exact .inr (.inr ⟨k, fs, dd, h1, h2, h3.step c p⟩)
theorem RpS.rp {v : V} {d : D} (h : RpS K Z A S H v d) (n1 : ∀ n, d ≠ .loc n) (n2 : ∀ c fs, d ≠ .err c fs) : Rp K H (Own A S) v d := by
  rcases h with ⟨n, e, h1, _⟩ | h | ⟨k, fs, dd, h1, _⟩
  · exact absurd h1 (n1 n)
  · exact h
  · exact absurd h1 (n2 k fs)
/-- objects were made alone -/
theorem Cell.ext {O O' : Ow} {H H' : Hp} {a : Addr} {d : D} (ow : Owns H O) (e : Ext O H H') (g : Grow H O O') (k : ∀ o, H a = some o → H' a = some o) (c : Cell K H O a d) : Cell K H' O' a d := by
  cases c with
  | lst h r => exact .lst (k _ h) (r.ext ow e g)
  | dct h r => exact .dct (k _ h) (r.ext ow e g)
theorem Pst.of_same (c : Cells K A S H) (h : Same H H1) : Pst K A S H S H1 :=
  ⟨.of_same h, .refl _, rfl, ⟨fun n d e => (c.at_ n d e).ext c.owns (.of_same h) (.refl _ _) fun o q => h _ o q, c.inj, fun a z => let ⟨o, q, m⟩ := c.phs a z; ⟨o, h a o q, m⟩, c.apart⟩⟩
end

/-- fresh data: its address was free, and nobody holds it -/
def isNew : D → Bool
  | .lst true _ => true
  | .dct true _ => true
  | _ => false
def Fresh (K : PySem.W.Frag) (A : Wy) (S : Store) (H H' : Hp) (v : V) (d : D) : Prop :=
  isNew d = true → ∃ a, v = .ref a ∧ H a = none ∧ Cell K H' (fun x => Own A S x ∨ x = a) a d ∧ ∀ (n : Nat) (e : D), S[n]? = some (some e) → Cell K H' (fun x => Own A S x ∨ x = a) (A.loc n) e
theorem Fresh.old {K : PySem.W.Frag} {A : Wy} {S : Store} {H H' : Hp} {v : V} {d : D} (h : isNew d = false) : Fresh K A S H H' v d := fun z => by rw [h] at z; cases z
theorem Fresh.mk {K : PySem.W.Frag} {A : Wy} {S : Store} {H H' : Hp} {a : Addr} {d : D} (c : Cells K A S H) (sm : Same H H') (h : H a = none) (ce : Cell K H' (fun x => Own A S x ∨ x = a) a d) : Fresh K A S H H' (.ref a) d := fun _ =>
  ⟨a, rfl, h, ce, fun n e q => (c.at_ n e q).ext c.owns (.of_same sm) (fun x z => z.imp id fun z => by rw [z]; exact h) fun o q => sm _ o q⟩
theorem Grow.one {H : Hp} {O : Ow} {a : Addr} (h : H a = none) : Grow H O (fun x => O x ∨ x = a) := fun x z => z.imp id fun z => by rw [z]; exact h
theorem Fresh.later {K : PySem.W.Frag} {A : Wy} {S : Store} {H0 H H' : Hp} {v : V} {d : D} (fr : ∀ a, H a = none → H0 a = none) (f : Fresh K A S H H' v d) : Fresh K A S H0 H' v d := fun z =>
  let ⟨a, e, n, k⟩ := f z
  ⟨a, e, fr a n, k⟩
end Dv

namespace Dv
open PySem PySem.Spec PyProof.Rows L2
set_option autoImplicit false

abbrev St := L2.St
/-- where one stands -/
structure Sit where
  X : Cx
  base : Nat
  W : WX
  Z : ZT
  cad : Nat → Addr

/-- the slots and the store, as they stand -/
structure Cn (s : Sit) (ρ : Rho) (S : Store) (A : Wy) (σ : St) (H : Hp) : Prop where
  slot : ∀ (i : Nat) (d : D), ρ[i]? = some (some d) → ∃ v, σ[i]? = some (some v) ∧ RpS s.X.K s.Z A S H v d
  cells : Cells s.X.K A S H
  disc : ∀ (i n : Nat), ρ[i]? = some (some (.loc n)) → n < s.base ∨ n = s.base + i
  len : σ.length = ρ.length
  room : s.base + ρ.length ≤ S.length

def EOut (s : Sit) (A : Wy) (S : Store) (H : Hp) (σ : St) (Q : VK) : Res D → Prop
  | .ok d S' => ∀ v H', Pst s.X.K A S H S' H' → RpS s.X.K s.Z A S' H' v d → Fresh s.X.K A S' H H' v d → Q v H'
  | .exc c fs S' => ∀ dd H', Pst s.X.K A S H S' H' → ExAt s.X.K H' (Own A S') c dd fs → s.W (.ref (s.cad c)) dd σ H'
  | .bad => False
abbrev ME := Rho → Store → Res D
def tD (s : Sit) (m : ME) : TE := fun σ H Q => ∃ ρ S A, Cn s ρ S A σ H ∧ EOut s A S H σ Q (m ρ S)
/-- THE JUDGEMENT: e is worth m -/
def SE (s : Sit) (e : Expr) (m : ME) : Prop := PE s.X e (tD s m)

section
variable {s : Sit} {ρ : Rho} {S S1 : Store} {A : Wy} {σ : St} {H H1 : Hp}
theorem Cn.step (c : Cn s ρ S A σ H) (p : Pst s.X.K A S H S1 H1) : Cn s ρ S1 A σ H1 :=
  ⟨fun i d h => let ⟨v, h1, h2⟩ := c.slot i d h; ⟨v, h1, h2.step c.cells p⟩, p.cells, c.disc, c.len, by rw [p.len]; exact c.room⟩

theorem PE.weak {X : Cx} {e : Expr} {t t' : TE} (h : PE X e t) (w : ∀ σ H Q, t' σ H Q → t σ H Q) : PE X e t' := ⟨fun pins s σ H Q I q => h.run pins s σ H Q I (w _ _ _ q)⟩

/-! ### one after the other -/
/-- go on -/
def Res.bind {α β : Type} (r : Res α) (k : α → Store → Res β) : Res β := match r with
  | .ok a S => k a S
  | .exc c fs S => .exc c fs S
  | .bad => .bad
@[simp] theorem bind_ok {α β : Type} (a : α) (S : Store) (k : α → Store → Res β) : (Res.ok a S).bind k = k a S := rfl
@[simp] theorem bind_exc {α β : Type} (c : Nat) (fs : List D) (S : Store) (k : α → Store → Res β) : (Res.exc c fs S : Res α).bind k = .exc c fs S := rfl
@[simp] theorem bind_bad {α β : Type} (k : α → Store → Res β) : (Res.bad : Res α).bind k = .bad := rfl

/-- an expression's part: from what is wanted of the whole -/
theorem tD_bind {m : ME} {k : D → Store → Res D} {Q : VK} {Q' : VK} (c : Cn s ρ S A σ H) (h : EOut s A S H σ Q ((m ρ S).bind k))
    (go : ∀ d S1 v H1, m ρ S = .ok d S1 → Pst s.X.K A S H S1 H1 → Cn s ρ S1 A σ H1 → RpS s.X.K s.Z A S1 H1 v d → Fresh s.X.K A S1 H H1 v d →
      EOut s A S H σ Q (k d S1) → Q' v H1) : tD s m σ H Q' := by
  refine ⟨ρ, S, A, c, ?_⟩
  cases e : m ρ S with
  | ok d S1 =>
    intro v H1 p r f
    rw [e] at h
    exact go d S1 v H1 e p (c.step p) r f h
  | exc x fs S1 =>
    intro dd H1 p q
    rw [e] at h
    exact h dd H1 p q
  | bad =>
    rw [e] at h
    exact h
/-- what is wanted, from a later place -/
theorem EOut.later {Q : VK} {r : Res D} (p : Pst s.X.K A S H S1 H1) (fr : ∀ a, H1 a = none → H a = none) (h : EOut s A S H σ Q r) : EOut s A S1 H1 σ Q r := by
  cases r with
  | ok d S2 =>
    intro v H2 p2 r2 f2
    exact h v H2 (p.trans p2) r2 (f2.later fr)
  | exc x fs S2 =>
    intro dd H2 p2 q
    exact h dd H2 (p.trans p2) q
  | bad => exact h
/-- nothing is let go by an expression -/
theorem Pst.free {K : PySem.W.Frag} (c : Cells K A S H) (p : Pst K A S H S1 H1) : ∀ a, H1 a = none → H a = none := fun a n => by
  cases e : H a with
  | none => rfl
  | some o =>
    by_cases z : OwC A S a
    · rw [← p.lives.ownC A] at z
      obtain ⟨o', q, _⟩ := p.cells.owns a (.inl z)
      rw [n] at q; cases q
    · rw [p.ext a o e z] at n; cases n
theorem EOut.on {Q : VK} {r : Res D} (c : Cells s.X.K A S H) (p : Pst s.X.K A S H S1 H1) (h : EOut s A S H σ Q r) : EOut s A S1 H1 σ Q r := h.later p (p.free c)
end

/-! ### names, constants -/
section
variable {s : Sit}
def mVar (i : Nat) : ME := fun ρ S => match ρ[i]? with
  | some (some d) => if isNew d then .bad else .ok d S
  | _ => .bad
def mK (d : D) : ME := fun _ S => .ok d S
theorem se_var {e : Expr} {i : Nat} (h : PE s.X e (tVar i)) : SE s e (mVar i) := by
  refine PE.weak h fun σ H Q q => ?_
  obtain ⟨ρ, S, A, c, q⟩ := q
  unfold mVar at q
  split at q
  · rename_i d hd
    obtain ⟨v, h1, h2⟩ := c.slot i d hd
    split at q
    · exact q.elim
    · rename_i hn
      exact ⟨v, h1, q v H (.refl c.cells) h2 (.old (by simpa using hn))⟩
  · exact q.elim
theorem se_k {e : Expr} {v : V} {d : D} (h : PE s.X e (tC v)) (r : ∀ H O, Rp s.X.K H O v d) (n : isNew d = false) : SE s e (mK d) := by
  refine PE.weak h fun σ H Q q => ?_
  obtain ⟨ρ, S, A, c, q⟩ := q
  exact q v H (.refl c.cells) (.inr (.inl (r _ _))) (.old n)
theorem se_int {i j pos} : SE s (.Constant (.int i) j pos) (mK (.int i)) := se_k pe_int (fun _ _ => .int i) rfl
theorem se_bl {b j pos} : SE s (.Constant (.bool b) j pos) (mK (.bl b)) := se_k pe_bl (fun _ _ => .bl b) rfl
theorem se_non {j pos} : SE s (.Constant .none j pos) (mK .non) := se_k pe_non (fun _ _ => .non) rfl
theorem se_str {x j pos} : SE s (.Constant (.str x) j pos) (mK (.str x)) := se_k pe_str (fun _ _ => .str x) rfl
/-- a module's constant -/
theorem se_glob {x : Str} {u : Value} {v : V} {d : D} {pos : Pos} (hg : Gl s.X x) (hm : s.X.mg x = some u) (r : RelV v u) (rd : ∀ H O, Rp s.X.K H O v d) (n : isNew d = false) (hd : (x == ("__debug__" : Str)) = false := by decide) : SE s (.Name x pos) (mK d) :=
  se_k (pe_glob hg hm r hd) rd n
end

/-! ### operations by values -/
/-- what is asked of an operation's rule: f tells its data -/
def OpSem (s : Sit) (f : Store → D → D → Option D) (r : R2) : Prop :=
  ∀ (A : Wy) (S : Store) (H : Hp) (v w : V) (d e x : D) (Q : VK), Cells s.X.K A S H → RpS s.X.K s.Z A S H v d → RpS s.X.K s.Z A S H w e → f S d e = some x →
    (∀ z H', Same H H' → RpS s.X.K s.Z A S H' z x → Fresh s.X.K A S H H' z x → Q z H') → r v w H Q
def UnSem (s : Sit) (f : Store → D → Option D) (r : V → Hp → VK → Prop) : Prop :=
  ∀ (A : Wy) (S : Store) (H : Hp) (v : V) (d x : D) (Q : VK), Cells s.X.K A S H → RpS s.X.K s.Z A S H v d → f S d = some x →
    (∀ z H', Same H H' → RpS s.X.K s.Z A S H' z x → Fresh s.X.K A S H H' z x → Q z H') → r v H Q
inductive RpL (K : PySem.W.Frag) (Z : ZT) (A : Wy) (S : Store) (H : Hp) : List V → List D → Prop
  | nil : RpL K Z A S H [] []
  | cons {v : V} {d : D} {vs : List V} {ds : List D} : RpS K Z A S H v d → RpL K Z A S H vs ds → RpL K Z A S H (v :: vs) (d :: ds)
def CallSem (s : Sit) (f : Store → List D → Option D) (r : List V → Hp → VK → Prop) : Prop :=
  ∀ (A : Wy) (S : Store) (H : Hp) (vs : List V) (ds : List D) (x : D) (Q : VK), Cells s.X.K A S H → RpL s.X.K s.Z A S H vs ds → f S ds = some x →
    (∀ z H', Same H H' → RpS s.X.K s.Z A S H' z x → Fresh s.X.K A S H H' z x → Q z H') → r vs H Q
def opt (o : Option D) (S : Store) : Res D := match o with
  | some x => .ok x S
  | none => .bad
def mOp (f : Store → D → D → Option D) (m n : ME) : ME := fun ρ S => (m ρ S).bind fun d S1 => (n ρ S1).bind fun e S2 => opt (f S2 d e) S2
def mUn (f : Store → D → Option D) (m : ME) : ME := fun ρ S => (m ρ S).bind fun d S1 => opt (f S1 d) S1
theorem RpL.step {K : PySem.W.Frag} {Z : ZT} {A : Wy} {S S1 : Store} {H H1 : Hp} (c : Cells K A S H) (p : Pst K A S H S1 H1) : ∀ {vs : List V} {ds : List D}, RpL K Z A S H vs ds → RpL K Z A S1 H1 vs ds
  | _, _, .nil => .nil
  | _, _, .cons h r => .cons (h.step c p) (RpL.step c p r)
section
variable {s : Sit} {a b : Expr} {m n : ME} {pos : Pos}
theorem fin_opt {A : Wy} {S : Store} {H : Hp} {σ : St} {Q : VK} {x : D} (c : Cells s.X.K A S H) (q : EOut s A S H σ Q (opt (some x) S)) :
    ∀ z H', Same H H' → RpS s.X.K s.Z A S H' z x → Fresh s.X.K A S H H' z x → Q z H' := fun z H' sm r f => q z H' (.of_same c sm) r f
theorem op_red {r : R2} {f : Store → D → D → Option D} (sem : OpSem s f r) {σ : St} {H : Hp} {Q : VK} (q : tD s (mOp f m n) σ H Q) : tOp r (tD s m) (tD s n) σ H Q := by
  obtain ⟨ρ, S, A, c, q⟩ := q
  refine tD_bind c q fun d S1 v H1 _ p1 c1 r1 _ q1 => ?_
  refine tD_bind c1 (q1.on c.cells p1) fun e S2 w H2 _ p2 c2 r2 _ q2 => ?_
  have q3 := q2.on c1.cells p2
  cases hf : f S2 d e with
  | none => rw [hf] at q3; exact q3.elim
  | some x =>
    rw [hf] at q3
    exact sem A S2 H2 v w d e x Q c2.cells (r1.step c1.cells p2) r2 hf (fin_opt c2.cells q3)
theorem se_bin {op : Operator} {r : R2} {f : Store → D → D → Option D} (ho : OpR s.X (binaryOp op) r) (sem : OpSem s f r) (ha : SE s a m) (hb : SE s b n) : SE s (.BinOp a op b pos) (mOp f m n) :=
  PE.weak (pe_op ho ha hb) fun _ _ _ q => op_red sem q
theorem se_cmp {op : CmpOp} {r : R2} {f : Store → D → D → Option D} (ho : OpR s.X (compareOp op) r) (sem : OpSem s f r) (ha : SE s a m) (hb : SE s b n) (hm : behindInMarks op b = false) : SE s (.Compare a [op] [b] pos) (mOp f m n) :=
  PE.weak (pe_cmpR ho ha hb hm) fun _ _ _ q => op_red sem q
theorem se_ix {r : R2} {f : Store → D → D → Option D} (ho : IxR s.X r) (sem : OpSem s f r) (ha : SE s a m) (hb : SE s b n) (hs : PlainIx b) : SE s (.Subscript a b pos) (mOp f m n) :=
  PE.weak (pe_ix ho ha hb hs) fun _ _ _ q => op_red sem q
theorem un_red {r : V → Hp → VK → Prop} {f : Store → D → Option D} (sem : UnSem s f r) {σ : St} {H : Hp} {Q : VK} (q : tD s (mUn f m) σ H Q) : tD s m σ H fun x H1 => r x H1 Q := by
  obtain ⟨ρ, S, A, c, q⟩ := q
  refine tD_bind c q fun d S1 v H1 _ p1 c1 r1 _ q1 => ?_
  have q3 := q1.on c.cells p1
  cases hf : f S1 d with
  | none => rw [hf] at q3; exact q3.elim
  | some x =>
    rw [hf] at q3
    exact sem A S1 H1 v d x Q c1.cells r1 hf (fin_opt c1.cells q3)
theorem se_un {op : UnaryOp} {r : V → Hp → VK → Prop} {f : Store → D → Option D} (ho : UnR s.X (unaryOp op) r) (sem : UnSem s f r) (ha : SE s a m) : SE s (.UnaryOp op a pos) (mUn f m) :=
  PE.weak (pe_un ho ha) fun _ _ _ q => un_red sem q
end

/-! ### arguments -/
abbrev MA := Rho → Store → Res (List D)
def AOut (s : Sit) (A : Wy) (S : Store) (H : Hp) (σ : St) (Q : List V → Hp → Prop) : Res (List D) → Prop
  | .ok ds S' => ∀ vs H', Pst s.X.K A S H S' H' → RpL s.X.K s.Z A S' H' vs ds → Q vs H'
  | .exc c fs S' => ∀ dd H', Pst s.X.K A S H S' H' → ExAt s.X.K H' (Own A S') c dd fs → s.W (.ref (s.cad c)) dd σ H'
  | .bad => False
def tDa (s : Sit) (m : MA) : TA := fun σ H Q => ∃ ρ S A, Cn s ρ S A σ H ∧ AOut s A S H σ Q (m ρ S)
def SA (s : Sit) (es : List Expr) (m : MA) : Prop := PA s.X es (tDa s m)
def aNil : MA := fun _ S => .ok [] S
def aCons (m : ME) (n : MA) : MA := fun ρ S => (m ρ S).bind fun d S1 => (n ρ S1).bind fun ds S2 => .ok (d :: ds) S2
section
variable {s : Sit} {ρ : Rho} {S S1 : Store} {A : Wy} {σ : St} {H H1 : Hp}
theorem PA.weak {X : Cx} {es : List Expr} {t t' : TA} (h : PA X es t) (w : ∀ σ H Q, t' σ H Q → t σ H Q) : PA X es t' := ⟨fun pos pins s σ H Q I q => h.run pos pins s σ H Q I (w _ _ _ q)⟩
theorem AOut.on {Q : List V → Hp → Prop} {r : Res (List D)} (p : Pst s.X.K A S H S1 H1) (h : AOut s A S H σ Q r) : AOut s A S1 H1 σ Q r := by
  cases r with
  | ok d S2 => intro v H2 p2 r2; exact h v H2 (p.trans p2) r2
  | exc x fs S2 => intro dd H2 p2 q; exact h dd H2 (p.trans p2) q
  | bad => exact h
/-- an argument list's part, of an argument list -/
theorem tD_bindA {m : ME} {k : D → Store → Res (List D)} {Q : List V → Hp → Prop} {Q' : VK} (c : Cn s ρ S A σ H) (h : AOut s A S H σ Q ((m ρ S).bind k))
    (go : ∀ d S1 v H1, m ρ S = .ok d S1 → Pst s.X.K A S H S1 H1 → Cn s ρ S1 A σ H1 → RpS s.X.K s.Z A S1 H1 v d → AOut s A S1 H1 σ Q (k d S1) → Q' v H1) : tD s m σ H Q' := by
  refine ⟨ρ, S, A, c, ?_⟩
  cases e : m ρ S with
  | ok d S1 => intro v H1 p r f; rw [e] at h; exact go d S1 v H1 e p (c.step p) r (AOut.on p h)
  | exc x fs S1 => intro dd H1 p q; rw [e] at h; exact h dd H1 p q
  | bad => rw [e] at h; exact h
theorem tDa_bindA {m : MA} {k : List D → Store → Res (List D)} {Q Q' : List V → Hp → Prop} (c : Cn s ρ S A σ H) (h : AOut s A S H σ Q ((m ρ S).bind k))
    (go : ∀ ds S1 vs H1, m ρ S = .ok ds S1 → Pst s.X.K A S H S1 H1 → Cn s ρ S1 A σ H1 → RpL s.X.K s.Z A S1 H1 vs ds → AOut s A S1 H1 σ Q (k ds S1) → Q' vs H1) : tDa s m σ H Q' := by
  refine ⟨ρ, S, A, c, ?_⟩
  cases e : m ρ S with
  | ok d S1 => intro v H1 p r; rw [e] at h; exact go d S1 v H1 e p (c.step p) r (AOut.on p h)
  | exc x fs S1 => intro dd H1 p q; rw [e] at h; exact h dd H1 p q
  | bad => rw [e] at h; exact h
/-- .. of an expression -/
theorem tDa_bind {m : MA} {k : List D → Store → Res D} {Q : VK} {Q' : List V → Hp → Prop} (c : Cn s ρ S A σ H) (h : EOut s A S H σ Q ((m ρ S).bind k))
    (go : ∀ ds S1 vs H1, m ρ S = .ok ds S1 → Pst s.X.K A S H S1 H1 → Cn s ρ S1 A σ H1 → RpL s.X.K s.Z A S1 H1 vs ds → EOut s A S1 H1 σ Q (k ds S1) → Q' vs H1) : tDa s m σ H Q' := by
  refine ⟨ρ, S, A, c, ?_⟩
  cases e : m ρ S with
  | ok d S1 => intro v H1 p r; rw [e] at h; exact go d S1 v H1 e p (c.step p) r (EOut.on c.cells p h)
  | exc x fs S1 => intro dd H1 p q; rw [e] at h; exact h dd H1 p q
  | bad => rw [e] at h; exact h
theorem sa_nil : SA s [] aNil := PA.weak pa_nil fun σ H Q q => by
  obtain ⟨ρ, S, A, c, q⟩ := q
  exact q [] H (.refl c.cells) .nil
theorem sa_cons {e : Expr} {es : List Expr} {m : ME} {n : MA} (he : SE s e m) (hr : SA s es n) (hs : starEach (e :: es) s.X.env = (false, eval e s.X.env) :: starEach es s.X.env := by rfl) : SA s (e :: es) (aCons m n) :=
  PA.weak (pa_cons he hr hs) fun σ H Q q => by
    obtain ⟨ρ, S, A, c, q⟩ := q
    refine tD_bindA c q fun d S1 v H1 _ p1 c1 r1 q1 => ?_
    refine tDa_bindA c1 q1 fun ds S2 vs H2 _ p2 c2 r2 q2 => ?_
    exact q2 (v :: vs) H2 (.refl c2.cells) (.cons (r1.step c1.cells p2) r2)
end
/-- f(e, ..), f built in -/
def mBlt (f : Store → List D → Option D) (n : MA) : ME := fun ρ S => (n ρ S).bind fun ds S1 => opt (f S1 ds) S1
section
variable {s : Sit} {e : Expr} {es : List Expr} {n : MA} {x : Str} {p pos : Pos} {id T : String} {r : List V → Hp → VK → Prop} {f : Store → List D → Option D}
theorem blt_red (sem : CallSem s f r) {σ : St} {H : Hp} {Q : VK} (q : tD s (mBlt f n) σ H Q) : tCB r (tDa s n) σ H Q := by
  obtain ⟨ρ, S, A, c, q⟩ := q
  refine tDa_bind c q fun ds S1 vs H1 _ p1 c1 r1 q1 => ?_
  cases hf : f S1 ds with
  | none => rw [hf] at q1; exact q1.elim
  | some x =>
    rw [hf] at q1
    exact sem A S1 H1 vs ds x Q c1.cells r1 hf (fin_opt c1.cells q1)
theorem se_callB (hc : CallR s.X (.builtin id) r) (sem : CallSem s f r) (hg : Gl s.X x) (hm : s.X.mg x = none) (hv : bootBuiltins x = some (.builtin id)) (ha : SA s (e :: es) n) (hn : x ≠ "__name__" := by decide) (hdb : (x == ("__debug__" : Str)) = false := by decide)
    (he : starEach (e :: es) s.X.env = (false, eval e s.X.env) :: starEach es s.X.env := by rfl) (hpl : (backTo pos (starEach es s.X.env)).any (·.1) = false := by rfl) : SE s (.Call (.Name x p) (e :: es) [] pos) (mBlt f n) :=
  PE.weak (pe_callB hc hg hm hv ha hn hdb he hpl) fun _ _ _ q => blt_red sem q
theorem se_callTy (hc : CallR s.X (.type T) r) (sem : CallSem s f r) (hg : Gl s.X x) (hm : s.X.mg x = none) (hv : bootBuiltins x = some (.type T)) (ha : SA s (e :: es) n) (hn : x ≠ "__name__" := by decide) (hdb : (x == ("__debug__" : Str)) = false := by decide)
    (he : starEach (e :: es) s.X.env = (false, eval e s.X.env) :: starEach es s.X.env := by rfl) (hpl : (backTo pos (starEach es s.X.env)).any (·.1) = false := by rfl) : SE s (.Call (.Name x p) (e :: es) [] pos) (mBlt f n) :=
  PE.weak (pe_callTy hc hg hm hv ha hn hdb he hpl) fun _ _ _ q => blt_red sem q
end
end Dv

namespace Dv
open PySem PySem.Spec PyProof.Rows L2
set_option autoImplicit false

/-! ### what a value is -/
/-- a cell's content, or the value itself -/
def vw (S : Store) : D → D
  | .loc n => (S[n]?.join).getD .non
  | d => d
mutual
def toPy : D → Option PyData
  | .non => some .none
  | .bl b => some (.bool b)
  | .int i => some (.int i)
  | .str x => some (.str x)
  | .tup xs => (toPyL xs).map .tuple
  | .lst _ xs => (toPyL xs).map .list
  | .rol xs => (toPyL xs).map .list
  | _ => none
def toPyL : List D → Option (List PyData)
  | [] => some []
  | x :: xs => match toPy x, toPyL xs with
    | some y, some ys => some (y :: ys)
    | _, _ => none
end
section
variable {K : PySem.W.Frag} {H : Hp} {O : Ow}
mutual
theorem Rp.dp : ∀ {d : D} {v : V} {p : PyData}, Rp K H O v d → toPy d = some p → Dp K H v p
  | .non, _, _, h, e => by cases h; simp only [toPy] at e; cases e; exact .non
  | .bl b, _, _, h, e => by cases h; simp only [toPy] at e; cases e; exact .bl b
  | .int i, _, _, h, e => by cases h; simp only [toPy] at e; cases e; exact .int i
  | .str x, _, _, h, e => by cases h; simp only [toPy] at e; cases e; exact .str x
  | .tup xs, _, _, h, e => by
    cases h with
    | tup h r =>
      simp only [toPy, Option.map_eq_some_iff] at e
      obtain ⟨ys, e1, e2⟩ := e
      cases e2
      exact .tup h (RpAll.dp r e1)
  | .lst _ xs, _, _, h, e => by
    cases h with
    | lst n h r =>
      simp only [toPy, Option.map_eq_some_iff] at e
      obtain ⟨ys, e1, e2⟩ := e
      cases e2
      exact .lst (.of h) (RpAll.dp r e1)
  | .rol xs, _, _, h, e => by
    cases h with
    | rol h r =>
      simp only [toPy, Option.map_eq_some_iff] at e
      obtain ⟨ys, e1, e2⟩ := e
      cases e2
      exact .lst h.seq (RpAll.dp r e1)
  | .ty _, _, _, _, e => by simp [toPy] at e
  | .adr _, _, _, _, e => by simp [toPy] at e
  | .loc _, _, _, _, e => by simp [toPy] at e
  | .dct _ _, _, _, _, e => by simp [toPy] at e
  | .obj _ _, _, _, _, e => by simp [toPy] at e
  | .err _ _, _, _, _, e => by simp [toPy] at e
theorem RpAll.dp : ∀ {ds : List D} {vs : List V} {ps : List PyData}, RpAll K H O vs ds → toPyL ds = some ps → DpAll K H vs ps
  | [], _, _, h, e => by cases h; simp only [toPyL] at e; cases e; exact .nil
  | x :: xs, _, _, h, e => by
    cases h with
    | cons r t =>
      simp only [toPyL] at e
      split at e
      · rename_i y ys h1 h2
        cases e
        exact .cons (Rp.dp r h1) (RpAll.dp t h2)
      · cases e
end
end
section
variable {K : PySem.W.Frag} {Z : ZT} {A : Wy} {S : Store} {H : Hp} {v w : V} {d e : D}
/-- how a value may be looked at -/
inductive Seen (K : PySem.W.Frag) (H : Hp) (O : Ow) : V → D → Prop
  | rp {v : V} {d : D} : Rp K H O v d → Seen K H O v d
  | cell {a : Addr} {d : D} : Cell K H O a d → Seen K H O (.ref a) d
theorem vw_old {d : D} (h : ∀ n, d ≠ .loc n) : vw S d = d := by
  cases d <;> first | rfl | exact absurd rfl (h _)
theorem RpS.seen (c : Cells K A S H) (r : RpS K Z A S H v d) (n : ∀ c fs, vw S d ≠ .err c fs) : Seen K H (Own A S) v (vw S d) := by
  rcases r with ⟨k, e, rfl, rfl, h⟩ | r | ⟨c, fs, dd, rfl, _⟩
  · show Seen K H (Own A S) _ ((S[k]?.join).getD .non)
    rw [h]
    exact .cell (c.at_ k e h)
  · rw [vw_old (by intro n; intro z; subst z; cases r)]
    exact .rp r
  · exact absurd rfl (n c fs)
theorem Seen.dp {O : Ow} {p : PyData} (s : Seen K H O v d) (e : toPy d = some p) : Dp K H v p := by
  cases s with
  | rp r => exact r.dp e
  | cell c =>
    cases c with
    | lst h r =>
      simp only [toPy, Option.map_eq_some_iff] at e
      obtain ⟨ys, e1, e2⟩ := e
      cases e2
      exact .lst (.of h) (r.dp e1)
    | dct h r => simp [toPy] at e
/-- the items of a list, a tuple -/
def seqOf : D → Option (List D)
  | .tup xs => some xs
  | .lst _ xs => some xs
  | .rol xs => some xs
  | _ => none
theorem Seen.seq {O : Ow} {ds : List D} (s : Seen K H O v d) (e : seqOf d = some ds) : ∃ a xs, v = .ref a ∧ (SqL K H a xs ∨ SqT K H a xs) ∧ RpAll K H O xs ds := by
  cases s with
  | rp r =>
    cases r <;> simp [seqOf] at e
    · subst e; rename_i a xs h r; exact ⟨_, _, rfl, .inr h, r⟩
    · subst e; rename_i a xs f n h r; exact ⟨_, _, rfl, .inl (.of h), r⟩
    · subst e; rename_i a xs h r; exact ⟨_, _, rfl, .inl h.seq, r⟩
  | cell c =>
    cases c with
    | lst h r =>
      simp [seqOf] at e
      subst e
      exact ⟨_, _, rfl, .inl (.of h), r⟩
    | dct h r => simp [seqOf] at e
def lstOf : D → Option (List D)
  | .lst _ xs => some xs
  | .rol xs => some xs
  | _ => none
theorem Seen.list {O : Ow} {ds : List D} (s : Seen K H O v d) (e : lstOf d = some ds) : ∃ a xs, v = .ref a ∧ SqL K H a xs ∧ RpAll K H O xs ds := by
  cases s with
  | rp r =>
    cases r <;> simp [lstOf] at e
    · subst e; rename_i a xs f n h r; exact ⟨_, _, rfl, .of h, r⟩
    · subst e; rename_i a xs h r; exact ⟨_, _, rfl, h.seq, r⟩
  | cell c =>
    cases c with
    | lst h r =>
      simp [lstOf] at e
      subst e
      exact ⟨_, _, rfl, .of h, r⟩
    | dct h r => simp [lstOf] at e
/-- a list that is tracked -/
theorem Seen.lst {O : Ow} {f : Bool} {ds : List D} (s : Seen K H O v (.lst f ds)) : ∃ a xs, v = .ref a ∧ H a = some (.lst xs) ∧ RpAll K H O xs ds := by
  cases s with
  | rp r => cases r with | lst n h r => exact ⟨_, _, rfl, h, r⟩
  | cell c => cases c with | lst h r => exact ⟨_, _, rfl, h, r⟩
theorem Seen.tup {O : Ow} {ds : List D} (s : Seen K H O v (.tup ds)) : ∃ a xs, v = .ref a ∧ SqT K H a xs ∧ RpAll K H O xs ds := by
  cases s with
  | rp r => cases r with | tup h r => exact ⟨_, _, rfl, h, r⟩
  | cell c => cases c
theorem Seen.int {O : Ow} {i : Int} (s : Seen K H O v (.int i)) : v = .int i := by
  cases s with
  | rp r => cases r; rfl
  | cell c => cases c
theorem Seen.bl {O : Ow} {i : Bool} (s : Seen K H O v (.bl i)) : v = .bl i := by
  cases s with
  | rp r => cases r; rfl
  | cell c => cases c
theorem Seen.str {O : Ow} {i : Str} (s : Seen K H O v (.str i)) : v = .str i := by
  cases s with
  | rp r => cases r; rfl
  | cell c => cases c
theorem Seen.non {O : Ow} (s : Seen K H O v .non) : v = .non := by
  cases s with
  | rp r => cases r; rfl
  | cell c => cases c

/-! ### made anew -/
theorem same_upd {H : Hp} {p : Addr} {o : HO} (h : H p = none) : Same H (upd H p o) := fun b x e => by
  rw [upd_ne (ne_of_none e h)]
  exact e
theorem own_some (c : Cells K A S H) {p : Addr} (h : H p = none) : ¬ Own A S p := fun z => by
  obtain ⟨o, q, _⟩ := c.owns p z
  rw [h] at q; cases q
theorem RpAll.same {vs : List V} {ds : List D} {H1 : Hp} (c : Cells K A S H) (sm : Same H H1) (r : RpAll K H (Own A S) vs ds) : RpAll K H1 (Own A S) vs ds := r.ext c.owns (.of_same sm) (.refl _ _)
theorem Rp.same {H1 : Hp} (c : Cells K A S H) (sm : Same H H1) (r : Rp K H (Own A S) v d) : Rp K H1 (Own A S) v d := r.ext c.owns (.of_same sm) (.refl _ _)
/-- a new list -/
theorem new_lst {Q : VK} {vs : List V} {ds : List D} (c : Cells K A S H) (r : RpAll K H (Own A S) vs ds) (q : ∀ z H', Same H H' → RpS K Z A S H' z (.lst true ds) → Fresh K A S H H' z (.lst true ds) → Q z H') :
    ∀ p, H p = none → Q (.ref p) (upd H p (.lst vs)) := fun p hp =>
  q _ _ (same_upd hp) (.inr (.inl (.lst (own_some c hp) upd_same (r.same c (same_upd hp))))) (.mk c (same_upd hp) hp (.lst upd_same (r.ext c.owns (.of_same (same_upd hp)) (.one hp))))
theorem new_tup {Q : VK} {vs : List V} {ds : List D} (c : Cells K A S H) (r : RpAll K H (Own A S) vs ds) (q : ∀ z H', Same H H' → RpS K Z A S H' z (.tup ds) → Fresh K A S H H' z (.tup ds) → Q z H') :
    ∀ p, H p = none → Q (.ref p) (upd H p (.tup vs)) := fun p hp =>
  q _ _ (same_upd hp) (.inr (.inl (.tup (.of upd_same) (r.same c (same_upd hp))))) (.old rfl)
theorem old_of {Q : VK} {x : D} {z : V} (r : Rp K H (Own A S) z x) (n : isNew x = false) (q : ∀ z H', Same H H' → RpS K Z A S H' z x → Fresh K A S H H' z x → Q z H') : Q z H :=
  q z H (Same.refl H) (.inr (.inl r)) (.old n)
end

/-! ### operations -/
def LINE : Nat := 16777216
theorem line_eq : sizeLine = LINE := sizeLine_eq
theorem noerr {S : Store} {d x : D} (h : vw S d = x) (n : ∀ c fs, x ≠ .err c fs) : ∀ c fs, vw S d ≠ .err c fs := by rw [h]; exact n
/-- what stands there, seen as x -/
theorem RpS.as {K : PySem.W.Frag} {Z : ZT} {A : Wy} {S : Store} {H : Hp} {v : V} {d x : D} (c : Cells K A S H) (r : RpS K Z A S H v d) (h : vw S d = x) (n : ∀ c fs, x ≠ .err c fs := by intros; exact fun z => nomatch z) : Seen K H (Own A S) v x :=
  h ▸ r.seen c (noerr h n)
def dII (g : Int → Int → Option D) (S : Store) (d e : D) : Option D := match vw S d, vw S e with
  | .int i, .int j => g i j
  | _, _ => none
section
variable {s : Sit}
/-- two ints, under C -/
theorem sem_ii {g : Int → Int → Option D} {C : Int → Int → Prop} {gv : Int → Int → V} {gd : Int → Int → D} (h1 : ∀ i j x, g i j = some x → C i j ∧ x = gd i j) (h2 : ∀ H O i j, Rp s.X.K H O (gv i j) (gd i j)) (h3 : ∀ i j, isNew (gd i j) = false) : OpSem s (dII g) (rI C gv) := by
  intro A S H v w d e x Q c rd re hf q
  unfold dII at hf
  split at hf
  · rename_i i j e1 e2
    obtain ⟨hc, rfl⟩ := h1 i j x hf
    exact ⟨i, j, (rd.as c e1).int, (re.as c e2).int, hc, old_of (h2 _ _ i j) (h3 i j) q⟩
  · cases hf
theorem sem_ii0 {gv : Int → Int → V} {gd : Int → Int → D} (h2 : ∀ H O i j, Rp s.X.K H O (gv i j) (gd i j)) (h3 : ∀ i j, isNew (gd i j) = false) : OpSem s (dII fun i j => some (gd i j)) (rI0 gv) := by
  intro A S H v w d e x Q c rd re hf q
  unfold dII at hf
  split at hf
  · rename_i i j e1 e2
    cases hf
    exact ⟨i, j, (rd.as c e1).int, (re.as c e2).int, old_of (h2 _ _ i j) (h3 i j) q⟩
  · cases hf
theorem OpSem.or {f g : Store → D → D → Option D} {r r' : R2} (h : OpSem s f r) (h' : OpSem s g r') : OpSem s (fun S d e => (f S d e).orElse fun _ => g S d e) (fun x y H Q => r x y H Q ∨ r' x y H Q) := by
  intro A S H v w d e x Q c rd re hf q
  dsimp only at hf
  cases hh : f S d e with
  | some y =>
    rw [hh] at hf
    cases hf
    exact .inl (h A S H v w d e _ Q c rd re hh q)
  | none =>
    rw [hh] at hf
    exact .inr (h' A S H v w d e x Q c rd re hf q)
end
/-! + -/
def dAdd (S : Store) (d e : D) : Option D := match vw S d, vw S e with
  | .int i, .int j => some (.int (i + j))
  | .str x, .str y => if x.length + y.length ≤ LINE then some (.str (x ++ y)) else none
  | .tup xs, .tup ys => if xs.length + ys.length ≤ LINE then some (.tup (xs ++ ys)) else none
  | .lst _ xs, .lst _ ys => if xs.length + ys.length ≤ LINE then some (.lst true (xs ++ ys)) else none
  | .int i, .bl b => some (.int (i + b2i b))
  | _, _ => none
def rAdd2 (K : PySem.W.Frag) : R2 := fun x y H Q => rI0 (fun i j => .int (i + j)) x y H Q ∨ (∃ i j, x = .str i ∧ y = .str j ∧ i.length + j.length ≤ sizeLine ∧ Q (.str (i ++ j)) H) ∨ rCatA K x y H Q ∨ rCat x y H Q ∨ (∃ i k, x = .int i ∧ y = .bl k ∧ Q (.int (i + b2i k)) H)
section
variable {s : Sit}
theorem op_add2 : OpR s.X (binaryOp .Add) (rAdd2 s.X.K) := op_add.or (op_add_str.or (op_catA.or (op_cat.or op_add_ib)))
theorem sem_add : OpSem s dAdd (rAdd2 s.X.K) := by
  intro A S H v w d e x Q c rd re hf q
  unfold dAdd at hf
  split at hf
  · rename_i i j h1 h2
    cases hf
    exact .inl ⟨i, j, (rd.as c h1).int, (re.as c h2).int, old_of (.int _) rfl q⟩
  · rename_i i j h1 h2
    split at hf
    · rename_i hl
      cases hf
      exact .inr (.inl ⟨i, j, (rd.as c h1).str, (re.as c h2).str, by rw [line_eq]; exact hl, old_of (.str _) rfl q⟩)
    · cases hf
  · rename_i i j h1 h2
    split at hf
    · rename_i hl
      cases hf
      obtain ⟨a, xs, rfl, ha, ra⟩ := (rd.as c h1).tup
      obtain ⟨b, ys, rfl, hb, rb⟩ := (re.as c h2).tup
      refine .inr (.inr (.inl ⟨a, b, xs, ys, rfl, rfl, ha, hb, by rw [line_eq, ra.length, rb.length]; exact hl, fun z => ?_, fun z1 z2 => ?_, fun z1 z2 => ?_⟩))
      · subst z
        cases ra
        exact old_of (.tup hb rb) rfl q
      · subst z2
        cases rb
        exact old_of (.tup ha (by rw [List.append_nil]; exact ra)) rfl q
      · exact new_tup c (ra.append rb) q
    · cases hf
  · rename_i f1 i f2 j h1 h2
    split at hf
    · rename_i hl
      cases hf
      obtain ⟨a, xs, rfl, ha, ra⟩ := (rd.as c h1).lst
      obtain ⟨b, ys, rfl, hb, rb⟩ := (re.as c h2).lst
      exact .inr (.inr (.inr (.inl ⟨a, b, xs, ys, rfl, rfl, ha, hb, by rw [line_eq, ra.length, rb.length]; exact hl, new_lst c (ra.append rb) q⟩)))
    · cases hf
  · rename_i i j h1 h2
    cases hf
    exact .inr (.inr (.inr (.inr ⟨i, j, (rd.as c h1).int, (re.as c h2).bl, old_of (.int _) rfl q⟩)))
  · cases hf
/-! the other ones on ints -/
def dSub := dII fun i j => some (.int (i - j))
theorem sem_sub : OpSem s dSub (rI0 fun i j => .int (i - j)) := sem_ii0 (fun _ _ _ _ => .int _) fun _ _ => rfl
def dAnd := dII fun i j => some (.int (Builtin.bitAnd i j))
theorem sem_band : OpSem s dAnd (rI0 fun i j => .int (Builtin.bitAnd i j)) := sem_ii0 (fun _ _ _ _ => .int _) fun _ _ => rfl
def dOr := dII fun i j => some (.int (Builtin.bitOr i j))
theorem sem_bor : OpSem s dOr (rI0 fun i j => .int (Builtin.bitOr i j)) := sem_ii0 (fun _ _ _ _ => .int _) fun _ _ => rfl
def dXor := dII fun i j => some (.int (Builtin.bitXor i j))
theorem sem_bxor : OpSem s dXor (rI0 fun i j => .int (Builtin.bitXor i j)) := sem_ii0 (fun _ _ _ _ => .int _) fun _ _ => rfl
def dMod := dII fun i j => if 0 < j then some (.int (i % j)) else none
theorem sem_mod : OpSem s dMod (rI (fun _ j => 0 < j) fun i j => .int (i % j)) := sem_ii (gd := fun i j => .int (i % j)) (fun i j x h => by split at h <;> cases h; exact ⟨‹_›, rfl⟩) (fun _ _ _ _ => .int _) fun _ _ => rfl
def dDiv := dII fun i j => if 0 < j ∧ j.natAbs.log2 < 9000 then some (.int (i / j)) else none
theorem sem_div : OpSem s dDiv (rI CDivW fun i j => .int (i / j)) := sem_ii (gd := fun i j => .int (i / j)) (fun i j x h => by split at h <;> cases h; exact ⟨‹_›, rfl⟩) (fun _ _ _ _ => .int _) fun _ _ => rfl
def dPow := dII fun i j => if 0 ≤ j ∧ j ≤ 1000000 ∧ i.natAbs < 2 ^ 64 then some (.int (i ^ j.toNat)) else none
theorem sem_pow : OpSem s dPow (rI CPow fun i j => .int (i ^ j.toNat)) := sem_ii (gd := fun i j => .int (i ^ j.toNat)) (fun i j x h => by split at h <;> cases h; exact ⟨‹_›, rfl⟩) (fun _ _ _ _ => .int _) fun _ _ => rfl
def dShl := dII fun i j => if 0 ≤ j ∧ j ≤ 1000000 ∧ i.natAbs < 2 ^ 64 then some (.int (i * 2 ^ j.toNat)) else none
theorem sem_shl : OpSem s dShl (rI CPow fun i j => .int (i * 2 ^ j.toNat)) := sem_ii (gd := fun i j => .int (i * 2 ^ j.toNat)) (fun i j x h => by split at h <;> cases h; exact ⟨‹_›, rfl⟩) (fun _ _ _ _ => .int _) fun _ _ => rfl
def dShr := dII fun i j => if 0 ≤ j then some (.int (i / 2 ^ j.toNat)) else none
theorem sem_shr : OpSem s dShr (rI (fun _ j => 0 ≤ j) fun i j => .int (i / 2 ^ j.toNat)) := sem_ii (gd := fun i j => .int (i / 2 ^ j.toNat)) (fun i j x h => by split at h <;> cases h; exact ⟨‹_›, rfl⟩) (fun _ _ _ _ => .int _) fun _ _ => rfl
/-- *: ints; a list so many times -/
def dRep (S : Store) (d e : D) : Option D := match vw S d, vw S e with
  | .lst _ xs, .int k => if k ≤ 9223372036854775807 ∧ -9223372036854775808 ≤ k ∧ xs.length * k.toNat ≤ LINE then some (.lst true (List.replicate k.toNat xs).flatten) else none
  | _, _ => none
theorem RpAll.rep {K : PySem.W.Frag} {H : Hp} {O : Ow} {vs : List V} {ds : List D} (r : RpAll K H O vs ds) : ∀ k : Nat, RpAll K H O (List.replicate k vs).flatten (List.replicate k ds).flatten
  | 0 => .nil
  | k + 1 => by
    rw [List.replicate_succ, List.replicate_succ, List.flatten_cons, List.flatten_cons]
    exact r.append (RpAll.rep r k)
theorem sem_rep : OpSem s dRep rRep := by
  intro A S H v w d e x Q c rd re hf q
  unfold dRep at hf
  split at hf
  · rename_i f xs k h1 h2
    split at hf
    · rename_i hl
      cases hf
      obtain ⟨a, vs, rfl, ha, ra⟩ := (rd.as c h1).lst
      exact ⟨a, k, vs, rfl, (re.as c h2).int, ha, by omega, by omega, by rw [line_eq, ra.length]; exact hl.2.2, new_lst c (ra.rep _) q⟩
    · cases hf
  · cases hf
def dMulI := dII fun i j => if i.natAbs.log2 + j.natAbs.log2 < 1000000 then some (.int (i * j)) else none
theorem sem_mulI : OpSem s dMulI (rI CMulW fun i j => .int (i * j)) := sem_ii (gd := fun i j => .int (i * j)) (fun i j x h => by split at h <;> cases h; exact ⟨‹_›, rfl⟩) (fun _ _ _ _ => .int _) fun _ _ => rfl
end
def dMul (S : Store) (d e : D) : Option D := (dMulI S d e).orElse fun _ => dRep S d e
section
variable {s : Sit}
theorem op_mul2 : OpR s.X (binaryOp .Mult) (fun x y H Q => rI CMulW (fun i j => .int (i * j)) x y H Q ∨ rRep x y H Q) := op_mulW.or op_rep
theorem sem_mul : OpSem s dMul (fun x y H Q => rI CMulW (fun i j => .int (i * j)) x y H Q ∨ rRep x y H Q) := sem_mulI.or sem_rep
/-! one place -/
def dNeg (S : Store) (d : D) : Option D := match vw S d with
  | .int i => some (.int (-i))
  | _ => none
def dInv (S : Store) (d : D) : Option D := match vw S d with
  | .int i => some (.int (Builtin.bitNot i))
  | _ => none
theorem sem_neg : UnSem s dNeg (rU fun i => .int (-i)) := by
  intro A S H v d x Q c rd hf q
  unfold dNeg at hf
  split at hf
  · rename_i i h1
    cases hf
    exact ⟨i, (rd.as c h1).int, old_of (.int _) rfl q⟩
  · cases hf
theorem sem_inv : UnSem s dInv (rU fun i => .int (Builtin.bitNot i)) := by
  intro A S H v d x Q c rd hf q
  unfold dInv at hf
  split at hf
  · rename_i i h1
    cases hf
    exact ⟨i, (rd.as c h1).int, old_of (.int _) rfl q⟩
  · cases hf

/-! ### comparisons -/
def dLt := dII fun i j => some (.bl (decide (i < j)))
theorem sem_lt : OpSem s dLt (rI0 fun i j => .bl (decide (i < j))) := sem_ii0 (fun _ _ _ _ => .bl _) fun _ _ => rfl
def dLe := dII fun i j => some (.bl (decide (i ≤ j)))
theorem sem_le : OpSem s dLe (rI0 fun i j => .bl (decide (i ≤ j))) := sem_ii0 (fun _ _ _ _ => .bl _) fun _ _ => rfl
def dGt := dII fun i j => some (.bl (decide (j < i)))
theorem sem_gt : OpSem s dGt (rI0 fun i j => .bl (decide (j < i))) := sem_ii0 (fun _ _ _ _ => .bl _) fun _ _ => rfl
def dGe := dII fun i j => some (.bl (decide (j ≤ i)))
theorem sem_ge : OpSem s dGe (rI0 fun i j => .bl (decide (j ≤ i))) := sem_ii0 (fun _ _ _ _ => .bl _) fun _ _ => rfl
end
/-- data that is compared -/
def pyOf (S : Store) (d : D) : Option PyData := match toPy (vw S d) with
  | some p => if SeqAt.shaped p then some p else none
  | none => none
def eqD (S : Store) (d e : D) : Option Bool := match vw S d, vw S e with
  | .int i, .int j => some (i == j)
  | .str x, .str y => some (x == y)
  | _, _ => match pyOf S d, pyOf S e with
    | some p, some q => some (PyData.eqv p q)
    | _, _ => none
def dEq (S : Store) (d e : D) : Option D := (eqD S d e).map .bl
def dNe (S : Store) (d e : D) : Option D := (eqD S d e).map fun b => .bl (!b)
section
variable {s : Sit}
theorem pyOf_dp {A : Wy} {S : Store} {H : Hp} {v : V} {d : D} {p : PyData} (c : Cells s.X.K A S H) (r : RpS s.X.K s.Z A S H v d) (h : pyOf S d = some p) : Dp s.X.K H v p ∧ SeqAt.shaped p = true := by
  unfold pyOf at h
  split at h
  · rename_i p' e
    split at h
    · rename_i hs
      cases h
      refine ⟨(r.seen c fun k fs z => ?_).dp e, hs⟩
      rw [z] at e
      simp [toPy] at e
    · cases h
  · cases h
theorem eqD_dp {A : Wy} {S : Store} {H : Hp} {v w : V} {d e : D} {b : Bool} (c : Cells s.X.K A S H) (rd : RpS s.X.K s.Z A S H v d) (re : RpS s.X.K s.Z A S H w e) (h : eqD S d e = some b) :
    (scal v w = true ∧ b = decide (v = w)) ∨ ∃ p q, Dp s.X.K H v p ∧ Dp s.X.K H w q ∧ SeqAt.shaped p = true ∧ SeqAt.shaped q = true ∧ b = PyData.eqv p q := by
  unfold eqD at h
  split at h
  · rename_i i j h1 h2
    cases h
    have e1 := (rd.as c h1).int
    have e2 := (re.as c h2).int
    subst e1 e2
    exact .inl ⟨rfl, dec_int.symm⟩
  · rename_i i j h1 h2
    cases h
    have e1 := (rd.as c h1).str
    have e2 := (re.as c h2).str
    subst e1 e2
    exact .inl ⟨rfl, dec_str.symm⟩
  · split at h
    · rename_i p q h1 h2
      cases h
      obtain ⟨a1, a2⟩ := pyOf_dp c rd h1
      obtain ⟨b1, b2⟩ := pyOf_dp c re h2
      exact .inr ⟨p, q, a1, b1, a2, b2, rfl⟩
    · cases h
def rEq2 (K : PySem.W.Frag) : R2 := fun x y H Q => rEq x y H Q ∨ rEqD K x y H Q
def rNe2 (K : PySem.W.Frag) : R2 := fun x y H Q => rNe x y H Q ∨ rNeD K x y H Q
theorem op_eq2 (hu : s.X.A.units + 64 < cLine) : OpR s.X (compareOp .Eq) (rEq2 s.X.K) := op_eq.or (op_eqD hu)
theorem op_ne2 (hu : s.X.A.units + 64 < cLine) : OpR s.X (compareOp .NotEq) (rNe2 s.X.K) := op_ne.or (op_neD hu)
theorem sem_eq : OpSem s dEq (rEq2 s.X.K) := by
  intro A S H v w d e x Q c rd re hf q
  simp only [dEq, Option.map_eq_some_iff] at hf
  obtain ⟨b, h, rfl⟩ := hf
  rcases eqD_dp c rd re h with ⟨h1, rfl⟩ | ⟨p, p', h1, h2, h3, h4, rfl⟩
  · exact .inl ⟨h1, old_of (.bl _) rfl q⟩
  · exact .inr ⟨p, p', h1, h2, h3, h4, old_of (.bl _) rfl q⟩
theorem sem_ne : OpSem s dNe (rNe2 s.X.K) := by
  intro A S H v w d e x Q c rd re hf q
  simp only [dNe, Option.map_eq_some_iff] at hf
  obtain ⟨b, h, rfl⟩ := hf
  rcases eqD_dp c rd re h with ⟨h1, rfl⟩ | ⟨p, p', h1, h2, h3, h4, rfl⟩
  · exact .inl ⟨h1, old_of (.bl _) rfl q⟩
  · exact .inr ⟨p, p', h1, h2, h3, h4, old_of (.bl _) rfl q⟩
/-- is None -/
def isNon (S : Store) (d : D) : Bool := match vw S d with
  | .non => true
  | _ => false
end
end Dv

namespace Dv
open PySem PySem.Spec PyProof.Rows L2
set_option autoImplicit false

/-! ### tests -/
abbrev MT := Rho → Store → Res Bool
def TOut (s : Sit) (A : Wy) (S : Store) (H : Hp) (σ : St) (Q : Bool → Hp → Prop) : Res Bool → Prop
  | .ok b S' => ∀ H', Pst s.X.K A S H S' H' → Q b H'
  | .exc c fs S' => ∀ dd H', Pst s.X.K A S H S' H' → ExAt s.X.K H' (Own A S') c dd fs → s.W (.ref (s.cad c)) dd σ H'
  | .bad => False
def tDt (s : Sit) (m : MT) : TT := fun σ H Q => ∃ ρ S A, Cn s ρ S A σ H ∧ TOut s A S H σ Q (m ρ S)
def ST (s : Sit) (e : Expr) (m : MT) : Prop := PT s.X e (tDt s m)
def SW (s : Sit) (e : Expr) (m : MT) : Prop := PW s.X e (tDt s m)
section
variable {s : Sit} {ρ : Rho} {S S1 : Store} {A : Wy} {σ : St} {H H1 : Hp}
theorem PT.weak {X : Cx} {e : Expr} {t t' : TT} (h : PT X e t) (w : ∀ σ H Q, t' σ H Q → t σ H Q) : PT X e t' := ⟨fun pins s σ H Q I q => h.run pins s σ H Q I (w _ _ _ q)⟩
theorem PW.weak {X : Cx} {e : Expr} {t t' : TT} (h : PW X e t) (w : ∀ σ H Q, t' σ H Q → t σ H Q) : PW X e t' := ⟨fun wh pins s σ H Q I q => h.run wh pins s σ H Q I (w _ _ _ q)⟩
theorem TOut.on {Q : Bool → Hp → Prop} {r : Res Bool} (p : Pst s.X.K A S H S1 H1) (h : TOut s A S H σ Q r) : TOut s A S1 H1 σ Q r := by
  cases r with
  | ok d S2 => intro H2 p2; exact h H2 (p.trans p2)
  | exc x fs S2 => intro dd H2 p2 q; exact h dd H2 (p.trans p2) q
  | bad => exact h
/-- a part of a test: an expression -/
theorem tD_bindT {m : ME} {k : D → Store → Res Bool} {Q : Bool → Hp → Prop} {Q' : VK} (c : Cn s ρ S A σ H) (h : TOut s A S H σ Q ((m ρ S).bind k))
    (go : ∀ d S1 v H1, m ρ S = .ok d S1 → Pst s.X.K A S H S1 H1 → Cn s ρ S1 A σ H1 → RpS s.X.K s.Z A S1 H1 v d → TOut s A S1 H1 σ Q (k d S1) → Q' v H1) : tD s m σ H Q' := by
  refine ⟨ρ, S, A, c, ?_⟩
  cases e : m ρ S with
  | ok d S1 => intro v H1 p r f; rw [e] at h; exact go d S1 v H1 e p (c.step p) r (TOut.on p h)
  | exc x fs S1 => intro dd H1 p q; rw [e] at h; exact h dd H1 p q
  | bad => rw [e] at h; exact h
/-- a part of a test: a test -/
theorem tDt_bindT {m : MT} {k : Bool → Store → Res Bool} {Q : Bool → Hp → Prop} {Q' : Bool → Hp → Prop} (c : Cn s ρ S A σ H) (h : TOut s A S H σ Q ((m ρ S).bind k))
    (go : ∀ b S1 H1, m ρ S = .ok b S1 → Pst s.X.K A S H S1 H1 → Cn s ρ S1 A σ H1 → TOut s A S1 H1 σ Q (k b S1) → Q' b H1) : tDt s m σ H Q' := by
  refine ⟨ρ, S, A, c, ?_⟩
  cases e : m ρ S with
  | ok d S1 => intro H1 p; rw [e] at h; exact go d S1 H1 e p (c.step p) (TOut.on p h)
  | exc x fs S1 => intro dd H1 p q; rw [e] at h; exact h dd H1 p q
  | bad => rw [e] at h; exact h
/-- a part of an expression: a test -/
theorem tDt_bind {m : MT} {k : Bool → Store → Res D} {Q : VK} {Q' : Bool → Hp → Prop} (c : Cn s ρ S A σ H) (h : EOut s A S H σ Q ((m ρ S).bind k))
    (go : ∀ b S1 H1, m ρ S = .ok b S1 → Pst s.X.K A S H S1 H1 → Cn s ρ S1 A σ H1 → EOut s A S1 H1 σ Q (k b S1) → Q' b H1) : tDt s m σ H Q' := by
  refine ⟨ρ, S, A, c, ?_⟩
  cases e : m ρ S with
  | ok d S1 => intro H1 p; rw [e] at h; exact go d S1 H1 e p (c.step p) (EOut.on c.cells p h)
  | exc x fs S1 => intro dd H1 p q; rw [e] at h; exact h dd H1 p q
  | bad => rw [e] at h; exact h
end

/-- truth -/
def truD (S : Store) (d : D) : Option Bool := match vw S d with
  | .non => some false
  | .bl b => some b
  | .int i => some (i != 0)
  | .str x => if x.length ≤ LINE then some ((x.length : Int) != 0) else none
  | .tup xs => some (!xs.isEmpty)
  | .lst _ xs => some (!xs.isEmpty)
  | .rol xs => some (!xs.isEmpty)
  | _ => none
section
variable {s : Sit} {A : Wy} {S : Store} {H : Hp} {v : V} {d : D} {b : Bool}
theorem RpAll.isEmpty {K : PySem.W.Frag} {O : Ow} {vs : List V} {ds : List D} (r : RpAll K H O vs ds) : vs.isEmpty = ds.isEmpty := by
  cases r <;> rfl
theorem truD_ok (c : Cells s.X.K A S H) (r : RpS s.X.K s.Z A S H v d) (h : truD S d = some b) : TruV s.X.K v H b := by
  unfold truD at h
  split at h
  · rename_i e; cases h; rw [(r.as c e).non]; rfl
  · rename_i x e; cases h; rw [(r.as c e).bl]; rfl
  · rename_i x e; cases h; rw [(r.as c e).int]; rfl
  · rename_i x e
    split at h
    · rename_i hl; cases h; rw [(r.as c e).str]; exact ⟨by rw [line_eq]; exact hl, rfl⟩
    · cases h
  · rename_i x e
    cases h
    obtain ⟨a, xs, rfl, h1, h2⟩ := (r.as c e).tup
    exact .inr (.inl ⟨xs, h1, by rw [h2.isEmpty]⟩)
  · rename_i x e
    cases h
    obtain ⟨a, xs, rfl, h1, h2⟩ := (r.as c e).lst
    exact .inl ⟨xs, .of h1, by rw [h2.isEmpty]⟩
  · rename_i x e
    cases h
    obtain ⟨a, xs, rfl, h1, h2⟩ := (r.as c e).list rfl
    exact .inl ⟨xs, h1, by rw [h2.isEmpty]⟩
  · cases h
end
def optB (o : Option Bool) (S : Store) : Res Bool := match o with
  | some b => .ok b S
  | none => .bad
/-- an expression's truth -/
def mT (m : ME) : MT := fun ρ S => (m ρ S).bind fun d S1 => optB (truD S1 d) S1
/-- a comparison's answer -/
def mTB (m : ME) : MT := fun ρ S => (m ρ S).bind fun d S1 => match d with
  | .bl b => .ok b S1
  | _ => .bad
def mAndT (m n : MT) : MT := fun ρ S => (m ρ S).bind fun b S1 => if b then n ρ S1 else .ok false S1
def mOrT (m n : MT) : MT := fun ρ S => (m ρ S).bind fun b S1 => if b then .ok true S1 else n ρ S1
def mNotT (m : MT) : MT := fun ρ S => (m ρ S).bind fun b S1 => .ok (!b) S1
/-- and, or, not as values -/
def mAnd (m n : ME) : ME := fun ρ S => (m ρ S).bind fun d S1 => match truD S1 d with
  | some true => n ρ S1
  | some false => .ok d S1
  | none => .bad
def mOr (m n : ME) : ME := fun ρ S => (m ρ S).bind fun d S1 => match truD S1 d with
  | some true => .ok d S1
  | some false => n ρ S1
  | none => .bad
def mNot (m : ME) : ME := fun ρ S => (m ρ S).bind fun d S1 => match truD S1 d with
  | some b => .ok (.bl (!b)) S1
  | none => .bad
def mIf (c : MT) (m n : ME) : ME := fun ρ S => (c ρ S).bind fun b S1 => if b then m ρ S1 else n ρ S1
section
variable {s : Sit} {a b : Expr} {rest : List Expr} {m n : ME} {c t u : MT} {pos : Pos}
theorem st_truth (ha : SE s a m) (he : ∀ whole, isTrue a s.X.env whole = (do let v ← whole; standAt a.pos; holding [v] (truthy v)) := by intro _; rfl) : ST s a (mT m) := by
  refine PT.weak (pt_truth ha he) fun σ H Q q => ?_
  obtain ⟨ρ, S, A, c, q⟩ := q
  refine tD_bindT c q fun d S1 v H1 _ p1 c1 r1 q1 => ?_
  cases e : truD S1 d with
  | none => rw [e] at q1; exact q1.elim
  | some k =>
    rw [e] at q1
    exact ⟨k, truD_ok c1.cells r1 e, q1 H1 (.refl c1.cells)⟩
theorem st_cmp {op : CmpOp} {r : R2} {f : Store → D → D → Option D} (ho : OpR s.X (compareOp op) r) (sem : OpSem s f r) (ha : SE s a m) (hb : SE s b n) (hm : behindInMarks op b = false) : ST s (.Compare a [op] [b] pos) (mTB (mOp f m n)) := by
  refine PT.weak (pt_cmpR ho ha hb hm) fun σ H Q q => ?_
  obtain ⟨ρ, S, A, c, q⟩ := q
  refine op_red sem ⟨ρ, S, A, c, ?_⟩
  have q : TOut s A S H σ Q ((mOp f m n ρ S).bind fun d S1 => match d with | .bl b => .ok b S1 | _ => .bad) := q
  cases e : mOp f m n ρ S with
  | ok d S1 =>
    rw [e] at q
    intro v H1 p r _
    cases d with
    | bl k =>
      have : v = .bl k := by
        rcases r with ⟨_, _, z, _⟩ | r | ⟨_, _, _, z, _⟩
        · cases z
        · cases r; rfl
        · cases z
      exact ⟨k, this, q H1 p⟩
    | _ => exact q.elim
  | exc x fs S1 => rw [e] at q; exact q
  | bad => rw [e] at q; exact q
theorem sw_and1 (ha : ST s a t) : SW s (.BoolOp .And [a] pos) t := pw_and1 ha
theorem sw_or1 (ha : ST s a t) : SW s (.BoolOp .Or [a] pos) t := pw_or1 ha
theorem sw_and (ha : ST s a t) (hb : SW s (.BoolOp .And (b :: rest) pos) u) : SW s (.BoolOp .And (a :: b :: rest) pos) (mAndT t u) := by
  refine PW.weak (pw_and ha hb) fun σ H Q q => ?_
  obtain ⟨ρ, S, A, c, q⟩ := q
  refine tDt_bindT c q fun k S1 H1 _ p1 c1 q1 => ?_
  cases k with
  | true => exact iteT ⟨ρ, S1, A, c1, q1⟩
  | false => exact iteF (q1 H1 (.refl c1.cells))
theorem sw_or (ha : ST s a t) (hb : SW s (.BoolOp .Or (b :: rest) pos) u) : SW s (.BoolOp .Or (a :: b :: rest) pos) (mOrT t u) := by
  refine PW.weak (pw_or ha hb) fun σ H Q q => ?_
  obtain ⟨ρ, S, A, c, q⟩ := q
  refine tDt_bindT c q fun k S1 H1 _ p1 c1 q1 => ?_
  cases k with
  | true => exact iteT (q1 H1 (.refl c1.cells))
  | false => exact iteF ⟨ρ, S1, A, c1, q1⟩
theorem SW.st (h : SW s a t) : ST s a t := L2.PW.pt h
theorem st_not (ha : ST s a t) : ST s (.UnaryOp .Not a pos) (mNotT t) := by
  refine PT.weak (pt_not ha) fun σ H Q q => ?_
  obtain ⟨ρ, S, A, c, q⟩ := q
  exact tDt_bindT c q fun k S1 H1 _ p1 c1 q1 => q1 H1 (.refl c1.cells)
theorem se_one {op} (ha : SE s a m) : SE s (.BoolOp op [a] pos) m := pe_one ha
theorem se_and (ha : SE s a m) (hb : SE s (.BoolOp .And (b :: rest) pos) n) : SE s (.BoolOp .And (a :: b :: rest) pos) (mAnd m n) := by
  refine PE.weak (pe_andT ha hb) fun σ H Q q => ?_
  obtain ⟨ρ, S, A, c, q⟩ := q
  refine tD_bind c q fun d S1 v H1 _ p1 c1 r1 f1 q1 => ?_
  cases e : truD S1 d with
  | none => rw [e] at q1; exact q1.elim
  | some k =>
    rw [e] at q1
    refine ⟨k, truD_ok c1.cells r1 e, ?_⟩
    cases k with
    | true => exact iteT ⟨ρ, S1, A, c1, q1.on c.cells p1⟩
    | false => exact iteF (q1 v H1 p1 r1 f1)
theorem se_or (ha : SE s a m) (hb : SE s (.BoolOp .Or (b :: rest) pos) n) : SE s (.BoolOp .Or (a :: b :: rest) pos) (mOr m n) := by
  refine PE.weak (pe_orT ha hb) fun σ H Q q => ?_
  obtain ⟨ρ, S, A, c, q⟩ := q
  refine tD_bind c q fun d S1 v H1 _ p1 c1 r1 f1 q1 => ?_
  cases e : truD S1 d with
  | none => rw [e] at q1; exact q1.elim
  | some k =>
    rw [e] at q1
    refine ⟨k, truD_ok c1.cells r1 e, ?_⟩
    cases k with
    | true => exact iteT (q1 v H1 p1 r1 f1)
    | false => exact iteF ⟨ρ, S1, A, c1, q1.on c.cells p1⟩
theorem se_not (ha : SE s a m) : SE s (.UnaryOp .Not a pos) (mNot m) := by
  refine PE.weak (pe_notT ha) fun σ H Q q => ?_
  obtain ⟨ρ, S, A, c, q⟩ := q
  refine tD_bind c q fun d S1 v H1 _ p1 c1 r1 f1 q1 => ?_
  cases e : truD S1 d with
  | none => rw [e] at q1; exact q1.elim
  | some k =>
    rw [e] at q1
    exact ⟨k, truD_ok c1.cells r1 e, q1 _ H1 p1 (.inr (.inl (.bl _))) (.old rfl)⟩
theorem se_ifExp {e : Expr} (hc : ST s e c) (ha : SE s a m) (hb : SE s b n) : SE s (.IfExp e a b pos) (mIf c m n) := by
  refine PE.weak (pe_ifExp hc ha hb) fun σ H Q q => ?_
  obtain ⟨ρ, S, A, cn, q⟩ := q
  refine tDt_bind cn q fun k S1 H1 _ p1 c1 q1 => ?_
  cases k with
  | true => exact iteT ⟨ρ, S1, A, c1, q1⟩
  | false => exact iteF ⟨ρ, S1, A, c1, q1⟩
/-! is None -/
def isN : D → Bool
  | .non => true
  | _ => false
def mIsN (m : ME) : ME := fun ρ S => (m ρ S).bind fun d S1 => .ok (.bl (isN d)) S1
def mNotN (m : ME) : ME := fun ρ S => (m ρ S).bind fun d S1 => .ok (.bl (!isN d)) S1
theorem is_non {A : Wy} {S : Store} {H : Hp} {v : V} {d : D} (r : RpS s.X.K s.Z A S H v d) (nz : ∀ c dd, ¬ s.Z .non c dd) : decide (v = .non) = (isN d) := by
  rcases r with ⟨n, e, rfl, rfl, _⟩ | r | ⟨c, fs, dd, rfl, z, _⟩
  · rfl
  · cases r <;> rfl
  · cases v <;> first | rfl | exact absurd z (nz _ _)
theorem se_isN {j pos'} (nz : ∀ c dd, ¬ s.Z .non c dd) (ha : SE s a m) : SE s (.Compare a [.Is] [.Constant .none j pos'] pos) (mIsN m) := by
  refine PE.weak (pe_cmp (pc_isN ha)) fun σ H Q q => ?_
  obtain ⟨ρ, S, A, c, q⟩ := q
  refine tD_bind c q fun d S1 v H1 _ p1 c1 r1 f1 q1 => ?_
  rw [is_non r1 nz]
  exact q1 _ H1 p1 (.inr (.inl (.bl _))) (.old rfl)
theorem se_notN {j pos'} (nz : ∀ c dd, ¬ s.Z .non c dd) (ha : SE s a m) : SE s (.Compare a [.IsNot] [.Constant .none j pos'] pos) (mNotN m) := by
  refine PE.weak (pe_cmp (pc_notN ha)) fun σ H Q q => ?_
  obtain ⟨ρ, S, A, c, q⟩ := q
  refine tD_bind c q fun d S1 v H1 _ p1 c1 r1 f1 q1 => ?_
  rw [is_non r1 nz]
  exact q1 _ H1 p1 (.inr (.inl (.bl _))) (.old rfl)
theorem st_isN {j pos'} (nz : ∀ c dd, ¬ s.Z .non c dd) (ha : SE s a m) : ST s (.Compare a [.Is] [.Constant .none j pos'] pos) (mTB (mIsN m)) := by
  refine PT.weak (pt_cmp (pc_isN ha)) fun σ H Q q => ?_
  obtain ⟨ρ, S, A, c, q⟩ := q
  have q : TOut s A S H σ Q ((m ρ S).bind fun d S1 => .ok (isN d) S1) := by
    unfold mTB mIsN at q
    cases e : m ρ S <;> (rw [e] at q; exact q)
  refine tD_bindT c q fun d S1 v H1 _ p1 c1 r1 q1 => ?_
  rw [is_non r1 nz]
  exact ⟨_, rfl, q1 H1 (.refl c1.cells)⟩
theorem st_notN {j pos'} (nz : ∀ c dd, ¬ s.Z .non c dd) (ha : SE s a m) : ST s (.Compare a [.IsNot] [.Constant .none j pos'] pos) (mTB (mNotN m)) := by
  refine PT.weak (pt_cmp (pc_notN ha)) fun σ H Q q => ?_
  obtain ⟨ρ, S, A, c, q⟩ := q
  have q : TOut s A S H σ Q ((m ρ S).bind fun d S1 => .ok (!isN d) S1) := by
    unfold mTB mNotN at q
    cases e : m ρ S <;> (rw [e] at q; exact q)
  refine tD_bindT c q fun d S1 v H1 _ p1 c1 r1 q1 => ?_
  rw [is_non r1 nz]
  exact ⟨_, rfl, q1 H1 (.refl c1.cells)⟩
/-! a op b op' c -/
def mChain (f g : Store → D → D → Option D) (m n o : ME) : ME := fun ρ S => (m ρ S).bind fun d S1 => (n ρ S1).bind fun e S2 => match f S2 d e with
  | some (.bl true) => (o ρ S2).bind fun x S3 => opt (g S3 e x) S3
  | some (.bl false) => .ok (.bl false) S2
  | _ => .bad
theorem bl_of {A : Wy} {S : Store} {H : Hp} {v : V} {k : Bool} (r : RpS s.X.K s.Z A S H v (.bl k)) : v = .bl k := by
  rcases r with ⟨_, _, z, _⟩ | r | ⟨_, _, _, z, _⟩
  · cases z
  · cases r; rfl
  · cases z
variable {o : ME} {e : Expr}
theorem chain_red {r r' : R2} {f g : Store → D → D → Option D} (sem : OpSem s f r) (sem' : OpSem s g r') {σ : St} {H : Hp} {Q : VK} (q : tD s (mChain f g m n o) σ H Q) : tChain r r' (tD s m) (tD s n) (tD s o) σ H Q := by
  obtain ⟨ρ, S, A, c, q⟩ := q
  refine tD_bind c q fun d S1 v H1 _ p1 c1 r1 _ q1 => ?_
  refine tD_bind c1 (q1.on c.cells p1) fun e S2 w H2 _ p2 c2 r2 _ q2 => ?_
  have q3 := q2.on c1.cells p2
  have r1' := r1.step c1.cells p2
  cases hf : f S2 d e with
  | none => rw [hf] at q3; exact q3.elim
  | some x =>
    rw [hf] at q3
    refine sem A S2 H2 v w d e x _ c2.cells r1' r2 hf fun z H3 sm rz _ => ?_
    have p3 : Pst s.X.K A S2 H2 S2 H3 := .of_same c2.cells sm
    cases x with
    | bl k =>
      refine ⟨k, bl_of rz, ?_⟩
      cases k with
      | true =>
        refine iteT (tD_bind (c2.step p3) (q3.on c2.cells p3) fun x S4 u H4 _ p4 c4 r4 _ q4 => ?_)
        have q5 := q4.on (c2.step p3).cells p4
        cases hg : g S4 e x with
        | none => rw [hg] at q5; exact q5.elim
        | some y =>
          rw [hg] at q5
          exact sem' A S4 H4 w u e x y Q c4.cells ((r2.step c2.cells p3).step (c2.step p3).cells p4) r4 hg (fin_opt c4.cells q5)
      | false => exact iteF (q3 _ H3 p3 (.inr (.inl (.bl _))) (.old rfl))
    | _ => exact q3.elim
theorem se_chain {op op' : CmpOp} {r r' : R2} {f g : Store → D → D → Option D} (ho : OpR s.X (compareOp op) r) (ho' : OpR s.X (compareOp op') r') (sem : OpSem s f r) (sem' : OpSem s g r') (ha : SE s a m) (hb : SE s b n) (hc : SE s e o)
    (hm : lastMarks [op, op'] [b, e] = false := by with_unfolding_all rfl) : SE s (.Compare a [op, op'] [b, e] pos) (mChain f g m n o) :=
  PE.weak (pe_chain ho ho' ha hb hc hm) fun _ _ _ q => chain_red sem sem' q
theorem st_chain {op op' : CmpOp} {r r' : R2} {f g : Store → D → D → Option D} (ho : OpR s.X (compareOp op) r) (ho' : OpR s.X (compareOp op') r') (sem : OpSem s f r) (sem' : OpSem s g r') (ha : SE s a m) (hb : SE s b n) (hc : SE s e o)
    (hm : lastMarks [op, op'] [b, e] = false := by with_unfolding_all rfl) : ST s (.Compare a [op, op'] [b, e] pos) (mTB (mChain f g m n o)) := by
  refine PT.weak (pt_chain ho ho' ha hb hc hm) fun σ H Q q => ?_
  obtain ⟨ρ, S, A, c, q⟩ := q
  refine chain_red sem sem' ⟨ρ, S, A, c, ?_⟩
  have q : TOut s A S H σ Q ((mChain f g m n o ρ S).bind fun d S1 => match d with | .bl b => .ok b S1 | _ => .bad) := q
  cases e : mChain f g m n o ρ S with
  | ok d S1 =>
    rw [e] at q
    intro v H1 p r _
    cases d with
    | bl k => exact ⟨k, bl_of r, q H1 p⟩
    | _ => exact q.elim
  | exc x fs S1 => rw [e] at q; exact q
  | bad => rw [e] at q; exact q
end

/-! ### displays -/
def plain : D → Bool
  | .loc _ => false
  | .err _ _ => false
  | _ => true
def plainL : List D → Bool
  | [] => true
  | d :: ds => plain d && plainL ds
/-- held by something: no more fresh -/
def cool : D → D
  | .lst _ xs => .lst false xs
  | .dct _ k => .dct false k
  | d => d
def coolL : List D → List D
  | [] => []
  | d :: ds => cool d :: coolL ds
theorem coolL_len : ∀ ds : List D, (coolL ds).length = ds.length
  | [] => rfl
  | _ :: ds => by simp [coolL, coolL_len ds]
theorem Rp.cool {K : PySem.W.Frag} {H : Hp} {O : Ow} {v : V} {d : D} (r : Rp K H O v d) : Rp K H O v (cool d) := by
  cases r with
  | lst n h r => exact .lst n h r
  | dct n h r => exact .dct n h r
  | _ => first | exact .non | exact .bl _ | exact .int _ | exact .str _ | exact .ty _ | exact .adr _ | exact .tup ‹_› ‹_› | exact .rol ‹_› ‹_›
theorem RpS.plain {K : PySem.W.Frag} {Z : ZT} {A : Wy} {S : Store} {H : Hp} {v : V} {d : D} (r : RpS K Z A S H v d) (h : plain d = true) : Rp K H (Own A S) v d :=
  r.rp (fun n z => by subst z; cases h) fun c fs z => by subst z; cases h
theorem RpL.plain {K : PySem.W.Frag} {Z : ZT} {A : Wy} {S : Store} {H : Hp} : ∀ {vs : List V} {ds : List D}, RpL K Z A S H vs ds → plainL ds = true → RpAll K H (Own A S) vs (coolL ds)
  | _, _, .nil, _ => .nil
  | _, _, .cons r t, h => by
    simp only [plainL, Bool.and_eq_true] at h
    exact .cons (r.plain h.1).cool (RpL.plain t h.2)
theorem RpL.length {K : PySem.W.Frag} {Z : ZT} {A : Wy} {S : Store} {H : Hp} : ∀ {vs : List V} {ds : List D}, RpL K Z A S H vs ds → vs.length = ds.length
  | _, _, .nil => rfl
  | _, _, .cons _ t => by simp [RpL.length t]
def mTup (n : MA) : ME := fun ρ S => (n ρ S).bind fun ds S1 => if plainL ds && decide (ds.length ≤ LINE) then .ok (.tup (coolL ds)) S1 else .bad
def mLst (n : MA) : ME := fun ρ S => (n ρ S).bind fun ds S1 => if plainL ds && decide (ds.length ≤ LINE) then .ok (.lst true (coolL ds)) S1 else .bad
section
variable {s : Sit} {es : List Expr} {n : MA} {pos : Pos}
theorem se_tup {x1} (h : SA s es n) : SE s (.Tuple es x1 pos) (mTup n) := by
  refine PE.weak (pe_tup h) fun σ H Q q => ?_
  obtain ⟨ρ, S, A, c, q⟩ := q
  refine tDa_bind c q fun ds S1 vs H1 _ p1 c1 r1 q1 => ?_
  split at q1
  · rename_i hp
    simp only [Bool.and_eq_true, decide_eq_true_eq] at hp
    refine ⟨by rw [line_eq, r1.length]; exact hp.2, new_tup c1.cells (r1.plain hp.1) (fin_opt c1.cells (x := .tup (coolL ds)) q1)⟩
  · exact q1.elim
theorem se_lst (h : SA s es n) : SE s (.List es pos) (mLst n) := by
  refine PE.weak (pe_lst h) fun σ H Q q => ?_
  obtain ⟨ρ, S, A, c, q⟩ := q
  refine tDa_bind c q fun ds S1 vs H1 _ p1 c1 r1 q1 => ?_
  split at q1
  · rename_i hp
    simp only [Bool.and_eq_true, decide_eq_true_eq] at hp
    refine ⟨by rw [line_eq, r1.length]; exact hp.2, new_lst c1.cells (r1.plain hp.1) (fin_opt c1.cells (x := .lst true (coolL ds)) q1)⟩
  · exact q1.elim
end
end Dv

namespace Dv
open PySem PySem.Spec PyProof.Rows L2
set_option autoImplicit false

inductive ResS where
  | nx (ρ : Rho) (S : Store)
  | rt (d : D) (S : Store)
  | bk (ρ : Rho) (S : Store)
  | ct (ρ : Rho) (S : Store)
  | exc (c : Nat) (fs : List D) (ρ : Rho) (S : Store)
  | bad
abbrev MS := Rho → Store → ResS

/-- behind statements: from the def's entry on the cells below base stand where they stood -/
structure Pss (base : Nat) (A : Wy) (S : Store) (H : Hp) (A' : Wy) (S' : Store) (H' : Hp) : Prop where
  ext : Ext (OwC A S) H H'
  grow : Grow H (OwC A S) (OwC A' S')
  free : ∀ a, H' a = none → H a = none
  low : ∀ n, n < base → A'.loc n = A.loc n
  ph : A'.ph = A.ph
  lives : ∀ n : Nat, n < base → (S'[n]?.join).isSome = (S[n]?.join).isSome
  len : S'.length = S.length
section
variable {K : PySem.W.Frag} {b : Nat} {A A1 A2 : Wy} {S S1 S2 : Store} {H H1 H2 : Hp}
theorem Pss.refl : Pss b A S H A S H := ⟨.refl _ _, .refl _ _, fun _ h => h, fun _ _ => rfl, rfl, fun _ _ => rfl, rfl⟩
theorem Pss.trans (p : Pss b A S H A1 S1 H1) (q : Pss b A1 S1 H1 A2 S2 H2) : Pss b A S H A2 S2 H2 where
  ext := fun a o h n => q.ext a o (p.ext a o h n) fun z => (p.grow a z).elim n fun z => by rw [h] at z; cases z
  grow := fun a z => (q.grow a z).elim (fun z => p.grow a z) fun z => .inr (p.free a z)
  free := fun a h => p.free a (q.free a h)
  low := fun n h => (q.low n h).trans (p.low n h)
  ph := q.ph.trans p.ph
  lives := fun n h => (q.lives n h).trans (p.lives n h)
  len := q.len.trans p.len
theorem Pst.pss (c : Cells K A S H) (p : Pst K A S H S1 H1) : Pss b A S H A S1 H1 where
  ext := p.ext
  grow := fun a z => .inl (p.lives.ownC A ▸ z)
  free := p.free c
  low := fun _ _ => rfl
  ph := rfl
  lives := fun n _ => p.lives n
  len := p.len
end

def SOut (s : Sit) (A : Wy) (S : Store) (H : Hp) (D : Ends) : ResS → Prop
  | .nx ρ' S' => ∀ σ' H' A', Pss s.base A S H A' S' H' → Cn s ρ' S' A' σ' H' → D.nx σ' H'
  | .bk ρ' S' => ∀ σ' H' A', Pss s.base A S H A' S' H' → Cn s ρ' S' A' σ' H' → D.bk σ' H'
  | .ct ρ' S' => ∀ σ' H' A', Pss s.base A S H A' S' H' → Cn s ρ' S' A' σ' H' → D.ct σ' H'
  | .rt d S' => ∀ v H' A', Pss s.base A S H A' S' H' → Cells s.X.K A' S' H' → RpS s.X.K s.Z A' S' H' v d → Fresh s.X.K A' S' H H' v d → D.rt v H'
  | .exc c fs ρ' S' => ∀ dd σ' H' A', Pss s.base A S H A' S' H' → Cn s ρ' S' A' σ' H' → ExAt s.X.K H' (Own A' S') c dd fs → s.W (.ref (s.cad c)) dd σ' H'
  | .bad => False
def tDs (s : Sit) (m : MS) : TS := fun D σ H => ∃ ρ S A, Cn s ρ S A σ H ∧ SOut s A S H D (m ρ S)
def SS (s : Sit) (st : Stmt) (m : MS) : Prop := PS s.X st (tDs s m)
def SSs (s : Sit) (st : List Stmt) (m : MS) : Prop := PSs s.X st (tDs s m)

section
variable {s : Sit} {ρ ρ1 : Rho} {S S1 : Store} {A A1 : Wy} {σ σ1 : St} {H H1 : Hp}
theorem PS.weak {X : Cx} {e : Stmt} {t t' : TS} (h : PS X e t) (w : ∀ D σ H, t' D σ H → t D σ H) : PS X e t' := ⟨fun pins s σ H D I q => h.run pins s σ H D I (w _ _ _ q)⟩
theorem PSs.weak {X : Cx} {e : List Stmt} {t t' : TS} (h : PSs X e t) (w : ∀ D σ H, t' D σ H → t D σ H) : PSs X e t' := ⟨fun pins s σ H D I q => h.run pins s σ H D I (w _ _ _ q)⟩
theorem SOut.on {D : Ends} {r : ResS} (p : Pss s.base A S H A1 S1 H1) (h : SOut s A S H D r) : SOut s A1 S1 H1 D r := by
  cases r with
  | nx ρ S2 => intro σ2 H2 A2 q; exact h σ2 H2 A2 (p.trans q)
  | bk ρ S2 => intro σ2 H2 A2 q; exact h σ2 H2 A2 (p.trans q)
  | ct ρ S2 => intro σ2 H2 A2 q; exact h σ2 H2 A2 (p.trans q)
  | rt d S2 => intro v H2 A2 q c r f; exact h v H2 A2 (p.trans q) c r (f.later p.free)
  | exc c fs ρ S2 => intro dd σ2 H2 A2 q; exact h dd σ2 H2 A2 (p.trans q)
  | bad => exact h
/-- a statement's part: an expression; its exception takes the slots as they stand -/
def bindE {α : Type} (r : Res α) (ρ : Rho) (k : α → Store → ResS) : ResS := match r with
  | .ok a S => k a S
  | .exc c fs S => .exc c fs ρ S
  | .bad => .bad
@[simp] theorem bindE_ok {α : Type} (a : α) (S : Store) (ρ : Rho) (k : α → Store → ResS) : bindE (Res.ok a S) ρ k = k a S := rfl
@[simp] theorem bindE_exc {α : Type} (c : Nat) (fs : List D) (S : Store) (ρ : Rho) (k : α → Store → ResS) : bindE (Res.exc c fs S : Res α) ρ k = .exc c fs ρ S := rfl
@[simp] theorem bindE_bad {α : Type} (ρ : Rho) (k : α → Store → ResS) : bindE (Res.bad : Res α) ρ k = .bad := rfl
theorem tD_bindS {m : ME} {k : D → Store → ResS} {D : Ends} {Q' : VK} (c : Cn s ρ S A σ H) (h : SOut s A S H D (bindE (m ρ S) ρ k))
    (go : ∀ d S1 v H1, m ρ S = .ok d S1 → Pst s.X.K A S H S1 H1 → Cn s ρ S1 A σ H1 → RpS s.X.K s.Z A S1 H1 v d → Fresh s.X.K A S1 H H1 v d → SOut s A S1 H1 D (k d S1) → Q' v H1) : tD s m σ H Q' := by
  refine ⟨ρ, S, A, c, ?_⟩
  cases e : m ρ S with
  | ok d S1 => intro v H1 p r f; rw [e] at h; exact go d S1 v H1 e p (c.step p) r f (SOut.on (p.pss c.cells) h)
  | exc x fs S1 => intro dd H1 p q; rw [e] at h; exact h dd σ H1 A (p.pss c.cells) (c.step p) q
  | bad => rw [e] at h; exact h
theorem tDt_bindS {m : MT} {k : Bool → Store → ResS} {D : Ends} {Q' : Bool → Hp → Prop} (c : Cn s ρ S A σ H) (h : SOut s A S H D (bindE (m ρ S) ρ k))
    (go : ∀ b S1 H1, m ρ S = .ok b S1 → Pst s.X.K A S H S1 H1 → Cn s ρ S1 A σ H1 → SOut s A S1 H1 D (k b S1) → Q' b H1) : tDt s m σ H Q' := by
  refine ⟨ρ, S, A, c, ?_⟩
  cases e : m ρ S with
  | ok d S1 => intro H1 p; rw [e] at h; exact go d S1 H1 e p (c.step p) (SOut.on (p.pss c.cells) h)
  | exc x fs S1 => intro dd H1 p q; rw [e] at h; exact h dd σ H1 A (p.pss c.cells) (c.step p) q
  | bad => rw [e] at h; exact h
theorem tDa_bindS {m : MA} {k : List D → Store → ResS} {D : Ends} {Q' : List V → Hp → Prop} (c : Cn s ρ S A σ H) (h : SOut s A S H D (bindE (m ρ S) ρ k))
    (go : ∀ ds S1 vs H1, m ρ S = .ok ds S1 → Pst s.X.K A S H S1 H1 → Cn s ρ S1 A σ H1 → RpL s.X.K s.Z A S1 H1 vs ds → SOut s A S1 H1 D (k ds S1) → Q' vs H1) : tDa s m σ H Q' := by
  refine ⟨ρ, S, A, c, ?_⟩
  cases e : m ρ S with
  | ok d S1 => intro v H1 p r; rw [e] at h; exact go d S1 v H1 e p (c.step p) r (SOut.on (p.pss c.cells) h)
  | exc x fs S1 => intro dd H1 p q; rw [e] at h; exact h dd σ H1 A (p.pss c.cells) (c.step p) q
  | bad => rw [e] at h; exact h
end

/-! ### blocks -/
/-- one behind another -/
def mSeq (m n : MS) : MS := fun ρ S => match m ρ S with
  | .nx ρ' S' => n ρ' S'
  | r => r
def mSkip : MS := fun ρ S => .nx ρ S
def mBreak : MS := fun ρ S => .bk ρ S
def mCont : MS := fun ρ S => .ct ρ S
def mRet (m : ME) : MS := fun ρ S => bindE (m ρ S) ρ fun d S1 => .rt d S1
def mRetN : MS := fun _ S => .rt .non S
def mDrop (m : ME) : MS := fun ρ S => bindE (m ρ S) ρ fun _ S1 => .nx ρ S1
def mIfS (c : MT) (m n : MS) : MS := fun ρ S => bindE (c ρ S) ρ fun b S1 => if b then m ρ S1 else n ρ S1
def mNever : MS := fun _ _ => .bad
section
variable {s : Sit} {st : Stmt} {rest : List Stmt} {m n : MS} {e : Expr} {me : ME} {pos : Pos}
theorem seq_red {D : Ends} {σ : St} {H : Hp} (q : tDs s (mSeq m n) D σ H) : tSeq (tDs s m) (tDs s n) D σ H := by
  obtain ⟨ρ, S, A, c, q⟩ := q
  refine ⟨ρ, S, A, c, ?_⟩
  unfold mSeq at q
  cases e : m ρ S with
  | nx ρ1 S1 =>
    rw [e] at q
    intro σ1 H1 A1 p c1
    exact ⟨ρ1, S1, A1, c1, SOut.on p q⟩
  | bk ρ1 S1 => rw [e] at q; exact q
  | ct ρ1 S1 => rw [e] at q; exact q
  | rt d S1 => rw [e] at q; exact q
  | exc c fs ρ1 S1 => rw [e] at q; exact q
  | bad => rw [e] at q; exact q
theorem ss_nil : SSs s [] mSkip := PSs.weak pss_nil fun D σ H q => by
  obtain ⟨ρ, S, A, c, q⟩ := q
  exact q σ H A .refl c
theorem ss_cons (h1 : SS s st m) (h2 : SSs s rest n) : SSs s (st :: rest) (mSeq m n) := PSs.weak (pss_cons h1 h2) fun _ _ _ q => seq_red q
theorem ss_one (h1 : SS s st m) : SSs s [st] m := pss_one h1
theorem s_pass : SS s (.Pass pos) mSkip := PS.weak ps_pass fun D σ H q => by
  obtain ⟨ρ, S, A, c, q⟩ := q
  exact q σ H A .refl c
theorem s_break : SS s (.Break pos) mBreak := PS.weak ps_break fun D σ H q => by
  obtain ⟨ρ, S, A, c, q⟩ := q
  exact q σ H A .refl c
theorem s_continue : SS s (.Continue pos) mCont := PS.weak ps_continue fun D σ H q => by
  obtain ⟨ρ, S, A, c, q⟩ := q
  exact q σ H A .refl c
theorem s_ret (he : SE s e me) : SS s (.Return (some e) pos) (mRet me) := PS.weak (ps_ret he) fun D σ H q => by
  obtain ⟨ρ, S, A, c, q⟩ := q
  refine ⟨ρ, S, A, c, ?_⟩
  unfold mRet at q
  cases e : me ρ S with
  | ok d S1 => rw [e] at q; intro v H1 p r f; exact q v H1 A (p.pss c.cells) p.cells r f
  | exc x fs S1 => rw [e] at q; intro dd H1 p z; exact q dd σ H1 A (p.pss c.cells) (c.step p) z
  | bad => rw [e] at q; exact q
theorem s_retN : SS s (.Return none pos) mRetN := PS.weak ps_retN fun D σ H q => by
  obtain ⟨ρ, S, A, c, q⟩ := q
  exact q .non H A .refl c.cells (.inr (.inl .non)) (.old rfl)
theorem s_expr (he : SE s e me) (hs : swapsWith e none pos.line s.X.env = pure false := by rfl) : SS s (.Expr e pos) (mDrop me) := PS.weak (ps_expr he hs) fun D σ H q => by
  obtain ⟨ρ, S, A, c, q⟩ := q
  exact tD_bindS c q fun d S1 v H1 _ p1 c1 r1 f1 q1 => q1 σ H1 A .refl c1
theorem s_if {c : Expr} {a b : List Stmt} {mc : MT} (hc : ST s c mc) (ha : SSs s a m) (hb : SSs s b n) : SS s (.If c a b pos) (mIfS mc m n) := PS.weak (ps_if hc ha hb) fun D σ H q => by
  obtain ⟨ρ, S, A, c, q⟩ := q
  refine tDt_bindS c q fun k S1 H1 _ p1 c1 q1 => ?_
  cases k with
  | true => exact iteT ⟨ρ, S1, A, c1, q1⟩
  | false => exact iteF ⟨ρ, S1, A, c1, q1⟩
theorem s_never : SS s st mNever := PS.weak ps_never fun D σ H q => by
  obtain ⟨ρ, S, A, c, q⟩ := q
  exact q.elim
theorem ss_never {sts : List Stmt} : SSs s sts mNever := PSs.weak pss_never fun D σ H q => by
  obtain ⟨ρ, S, A, c, q⟩ := q
  exact q.elim
end

/-! ### stores at names -/
/-- a name's slot holds a value -/
def holdV (base : Nat) (i : Nat) (d : D) (ρ : Rho) (S : Store) : ResS := match d with
  | .loc n => if n < base then .nx (ρ.set i (some (.loc n))) S else .bad
  | .err _ _ => .bad
  | d => .nx (ρ.set i (some (cool d))) S
/-- a name's slot has a list of its own -/
def holdO (base : Nat) (i : Nat) (d : D) (ρ : Rho) (S : Store) : ResS := if isNew d && decide (i < ρ.length) then .nx (ρ.set i (some (.loc (base + i)))) (S.set (base + i) (some d)) else .bad
def mSetV (base i : Nat) (m : ME) : MS := fun ρ S => bindE (m ρ S) ρ fun d S1 => holdV base i d ρ S1
def mSetO (base i : Nat) (m : ME) : MS := fun ρ S => bindE (m ρ S) ρ fun d S1 => holdO base i d ρ S1

section
variable {s : Sit} {ρ : Rho} {S S1 : Store} {A : Wy} {σ : St} {H H1 : Hp}
theorem Cn.setv {i : Nat} {v : V} {d : D} (c : Cn s ρ S A σ H) (r : RpS s.X.K s.Z A S H v d) (h : ∀ n, d = .loc n → n < s.base ∨ n = s.base + i) : Cn s (ρ.set i (some d)) S A (σ.set i (some v)) H := by
  refine ⟨fun j e he => ?_, c.cells, fun j n he => ?_, by simp [c.len], by simpa using c.room⟩
  · rw [List.getElem?_set] at he
    split at he
    · rename_i hij
      subst hij
      split at he
      · rename_i hl
        cases he
        exact ⟨v, by rw [List.getElem?_set_self (by rw [c.len]; exact hl)], r⟩
      · cases he
    · rename_i hij
      obtain ⟨w, h1, h2⟩ := c.slot j e he
      exact ⟨w, by rw [List.getElem?_set_ne hij]; exact h1, h2⟩
  · rw [List.getElem?_set] at he
    split at he
    · rename_i hij
      subst hij
      split at he
      · cases he
        exact h n rfl
      · cases he
    · exact c.disc j n he
theorem RpS.cool {v : V} {d : D} (r : RpS s.X.K s.Z A S H v d) (h : Dv.plain d = true) : RpS s.X.K s.Z A S H v (Dv.cool d) := .inr (.inl (r.plain h).cool)
theorem cool_loc {d : D} {n : Nat} (h : plain d = true) : Dv.cool d ≠ .loc n := by
  cases d <;> first | (cases h; done) | (intro z; cases z)
theorem holdV_plain {base i : Nat} {d : D} (h : plain d = true) : holdV base i d ρ S = .nx (ρ.set i (some (Dv.cool d))) S := by
  cases d <;> first | rfl | (cases h; done)
/-- a value is stored -/
theorem holdV_go {i : Nat} {v : V} {d : D} {Q : Ends} (c : Cn s ρ S A σ H) (r : RpS s.X.K s.Z A S H v d) (q : SOut s A S H Q (holdV s.base i d ρ S)) : Q.nx (σ.set i (some v)) H := by
  by_cases hp : plain d = true
  · rw [holdV_plain hp] at q
    exact q _ H A .refl (c.setv (r.cool hp) fun n z => absurd z (cool_loc hp))
  · cases d with
    | loc n =>
      unfold holdV at q
      dsimp only at q
      split at q
      · exact q _ H A .refl (c.setv r fun m z => by cases z; exact .inl ‹_›)
      · exact q.elim
    | err _ _ => exact q.elim
    | _ => exact absurd rfl hp
theorem Cell.own {K : PySem.W.Frag} {O O' : Ow} {H : Hp} {a : Addr} {d : D} (ow : Owns H O) (g : ∀ x, O' x → O x) (c : Cell K H O a d) : Cell K H O' a d :=
  c.ext ow (.refl _ _) (fun x z => .inl (g x z)) fun _ h => h
theorem Rp.own {K : PySem.W.Frag} {O O' : Ow} {H : Hp} {v : V} {d : D} (ow : Owns H O) (g : ∀ x, O' x → O x) (c : Rp K H O v d) : Rp K H O' v d := c.ext ow (.refl _ _) fun x z => .inl (g x z)
/-- a list that nobody holds is the slot's own: from the state ahead (H) of the expression that made it -/
theorem holdO_go {i : Nat} {v : V} {d : D} {Q : Ends} (c : Cn s ρ S A σ H) (p : Pst s.X.K A S H S1 H1) (r : RpS s.X.K s.Z A S1 H1 v d) (f : Fresh s.X.K A S1 H H1 v d) (q : SOut s A S H Q (holdO s.base i d ρ S1)) : Q.nx (σ.set i (some v)) H1 := by
  unfold holdO at q
  split at q
  · rename_i hn
    simp only [Bool.and_eq_true, decide_eq_true_eq] at hn
    obtain ⟨hn, hi⟩ := hn
    obtain ⟨a, rfl, ha, ca, fc⟩ := f hn
    -- the cell's content
    have r0 : Rp s.X.K H1 (Own A S1) (.ref a) d := r.rp (fun n z => by subst z; cases hn) fun c fs z => by subst z; cases hn
    have na : ¬ Own A S1 a := fun z => by
      rw [p.own] at z
      obtain ⟨o, q, _⟩ := c.cells.owns a z
      rw [ha] at q; cases q
    have room : s.base + i < S1.length := by rw [p.len]; have := c.room; omega
    let A' : Wy := ⟨fun n => if n = s.base + i then a else A.loc n, A.ph⟩
    let S' : Store := S1.set (s.base + i) (some d)
    have gS : ∀ (n : Nat) (e : D), S'[n]? = some (some e) → (n = s.base + i ∧ e = d) ∨ (n ≠ s.base + i ∧ S1[n]? = some (some e)) := fun n e h => by
      have h : (S1.set (s.base + i) (some d))[n]? = some (some e) := h
      rw [List.getElem?_set] at h
      split at h
      · rename_i z
        cases h; exact .inl ⟨z.symm, rfl⟩
      · rename_i z; exact .inr ⟨fun y => z y.symm, h⟩
    have own0 : ∀ x, OwC A' S' x → x = a ∨ OwC A S1 x := by
      rintro x ⟨n, e, h, rfl⟩
      rcases gS n e h with ⟨h1, h2⟩ | ⟨h1, h2⟩
      · exact .inl (if_pos h1)
      · refine .inr ⟨n, e, h2, ?_⟩
        exact (if_neg h1).symm
    have own' : ∀ x, Own A' S' x → x = a ∨ Own A S1 x := by
      rintro x (z | z)
      · exact (own0 x z).imp id .inl
      · exact .inr (.inr z)
    have ow1 : Owns H1 (fun x => Own A S1 x ∨ x = a) := fun x z => by
      rcases z with z | z
      · exact p.cells.owns x z
      · subst z
        cases d with
        | lst _ xs => cases r0 with | lst _ h _ => exact ⟨_, h, rfl⟩
        | dct _ _ => cases r0 with | dct _ h _ => exact ⟨_, h, rfl⟩
        | _ => cases hn
    have gr : Grow H (Own A S) (Own A' S') := fun x z => by
      rcases own' x z with e | e
      · exact .inr (by rw [e]; exact ha)
      · exact .inl (p.own ▸ e)
    have gr0 : Grow H (OwC A S) (OwC A' S') := fun x z => by
      rcases own0 x z with e | e
      · exact .inr (by rw [e]; exact ha)
      · exact .inl (p.lives.ownC A ▸ e)
    have rv : ∀ {w : V} {e : D}, Rp s.X.K H (Own A S) w e → Rp s.X.K H1 (Own A' S') w e := fun h => h.ext c.cells.owns p.ext.own gr
    have rc : Cell s.X.K H1 (Own A' S') a d := ca.own ow1 fun x z => (own' x z).symm.imp id id
    refine q _ H1 A' ⟨p.ext, gr0, p.free c.cells, fun n hn => if_neg (by omega), rfl, fun n hn => ?_, ?_⟩ ⟨fun j e he => ?_, ⟨fun n e h => ?_, fun n m e e' h h' z => ?_, p.cells.phs, fun x hx z => ?_⟩, fun j n he => ?_, by simp [c.len], ?_⟩
    · show ((S1.set (s.base + i) (some d))[n]?.join).isSome = _
      rw [List.getElem?_set_ne (by omega)]
      exact p.lives n
    · show (S1.set _ _).length = _
      rw [List.length_set]; exact p.len
    · rw [List.getElem?_set] at he
      split at he
      · rename_i hij
        subst hij
        · cases he
          refine ⟨.ref a, by rw [List.getElem?_set_self (by rw [c.len]; exact hi)], .inl ⟨_, d, rfl, ?_, ?_⟩⟩
          · show V.ref a = V.ref (if s.base + i = s.base + i then a else A.loc _)
            rw [if_pos rfl]
          · show (S1.set (s.base + i) (some d))[s.base + i]? = _
            rw [List.getElem?_set_self room]
      · rename_i hij
        obtain ⟨w, h1, h2⟩ := c.slot j e he
        refine ⟨w, by rw [List.getElem?_set_ne hij]; exact h1, ?_⟩
        rcases h2 with ⟨n, x, h3, h4, h5⟩ | h2 | ⟨k, fs, dd, h3, h4, h5⟩
        · obtain ⟨x', h6⟩ := p.lives.get h5
          have hne : n ≠ s.base + i := by
            rcases c.disc j n (h3 ▸ he) with z | z
            · omega
            · intro y; apply hij; omega
          refine .inl ⟨n, x', h3, ?_, ?_⟩
          · rw [h4]; show V.ref (A.loc n) = V.ref (if n = s.base + i then a else A.loc n); rw [if_neg hne]
          · show (S1.set (s.base + i) (some d))[n]? = _
            rw [List.getElem?_set_ne (Ne.symm hne)]; exact h6
        · exact .inr (.inl (rv h2))
        · exact .inr (.inr ⟨k, fs, dd, h3, h4, h5.ext c.cells.owns p.ext.own gr⟩)
    · rcases gS n e h with ⟨h1, h2⟩ | ⟨h1, h2⟩
      · subst h1 h2
        show Cell _ _ _ (if s.base + i = s.base + i then a else A.loc _) _
        rw [if_pos rfl]
        exact rc
      · show Cell _ _ _ (if n = s.base + i then a else A.loc n) _
        rw [if_neg h1]
        exact (fc n e h2).own ow1 fun x z => (own' x z).symm.imp id id
    · rcases gS n e h with ⟨h1, h2⟩ | ⟨h1, h2⟩
      · rcases gS m e' h' with ⟨h3, h4⟩ | ⟨h3, h4⟩
        · omega
        · exfalso
          have z : (if n = s.base + i then a else A.loc n) = (if m = s.base + i then a else A.loc m) := z
          rw [if_pos h1, if_neg h3] at z
          exact na (.inl ⟨m, e', h4, z.symm⟩)
      · rcases gS m e' h' with ⟨h3, h4⟩ | ⟨h3, h4⟩
        · exfalso
          have z : (if n = s.base + i then a else A.loc n) = (if m = s.base + i then a else A.loc m) := z
          rw [if_neg h1, if_pos h3] at z
          exact na (.inl ⟨n, e, h2, z⟩)
        · have z : (if n = s.base + i then a else A.loc n) = (if m = s.base + i then a else A.loc m) := z
          rw [if_neg h1, if_neg h3] at z
          exact p.cells.inj n m e e' h2 h4 z
    · rcases own0 x z with e | e
      · subst e
        exact na (.inr hx)
      · exact p.cells.apart x hx e
    · rw [List.getElem?_set] at he
      split at he
      · rename_i hij
        subst hij
        cases he
        exact .inr rfl
      · exact c.disc j n he
    · show s.base + (ρ.set i _).length ≤ (S1.set _ _).length
      rw [List.length_set, List.length_set, p.len]
      exact c.room
  · exact q.elim
end
end Dv

namespace Dv
open PySem PySem.Spec PyProof.Rows L2
set_option autoImplicit false

/-! ### targets: names, tuples of them -/
abbrev Tg := D → Rho → Option Rho
abbrev Tgs := List D → Rho → Option Rho
/-- only the slots vs are touched -/
def Touch (vs : List Nat) (σ σ' : St) : Prop := σ'.length = σ.length ∧ ∀ j, j ∉ vs → σ'[j]? = σ[j]?
theorem Touch.refl (vs : List Nat) (σ : St) : Touch vs σ σ := ⟨rfl, fun _ _ => rfl⟩
theorem Touch.trans {vs : List Nat} {σ σ1 σ2 : St} (a : Touch vs σ σ1) (b : Touch vs σ1 σ2) : Touch vs σ σ2 := ⟨b.1.trans a.1, fun j h => (b.2 j h).trans (a.2 j h)⟩
def tDg (s : Sit) (vs : List Nat) (t : Tg) : TG := fun v σ H Q => ∃ ρ S A d ρ', Cn s ρ S A σ H ∧ Rp s.X.K H (Own A S) v d ∧ t d ρ = some ρ' ∧ ∀ σ', Touch vs σ σ' → Cn s ρ' S A σ' H → Q σ' H
def tDgs (s : Sit) (vs : List Nat) (t : Tgs) : TGs := fun xs σ H Q => ∃ ρ S A ds ρ', Cn s ρ S A σ H ∧ RpAll s.X.K H (Own A S) xs ds ∧ t ds ρ = some ρ' ∧ ∀ σ', Touch vs σ σ' → Cn s ρ' S A σ' H → Q σ' H
def SG (s : Sit) (tg : Expr) (vs : List Nat) (t : Tg) : Prop := PG s.X tg (tDg s vs t)
def SGs (s : Sit) (ts : List Expr) (vs : List Nat) (t : Tgs) : Prop := PGs s.X ts (tDgs s vs t)
def gN (i : Nat) : Tg := fun d ρ => if plain d then some (ρ.set i (some (cool d))) else none
def gT (t : Tgs) : Tg := fun d ρ => match d with
  | .tup xs => t xs ρ
  | _ => none
def gs0 : Tgs := fun ds ρ => match ds with
  | [] => some ρ
  | _ => none
def gsC (t : Tg) (u : Tgs) : Tgs := fun ds ρ => match ds with
  | d :: ds => (t d ρ).bind fun ρ1 => u ds ρ1
  | [] => none
section
variable {s : Sit} {pos : Pos} {vs : List Nat}
theorem PG.weak {X : Cx} {e : Expr} {t t' : TG} (h : PG X e t) (w : ∀ v σ H Q, t' v σ H Q → t v σ H Q) : PG X e t' := ⟨fun pins s σ H v u Q I r q => h.run pins s σ H v u Q I r (w _ _ _ _ q)⟩
theorem PGs.weak {X : Cx} {e : List Expr} {t t' : TGs} (h : PGs X e t) (w : ∀ v σ H Q, t' v σ H Q → t v σ H Q) : PGs X e t' := ⟨fun pins s σ H v u Q I r q => h.run pins s σ H v u Q I r (w _ _ _ _ q)⟩
theorem sg_name {i : Nat} {x : Str} (hN : s.X.N.Nodup) (hi : s.X.N[i]? = some x) (hx : Loc s.X.env.scope x) (hv : i ∈ vs) (hf : s.X.fn x = true ∨ s.X.env.scope.names.lookup x = some .local := by first | exact .inl rfl | exact .inr rfl | assumption) : SG s (.Name x pos) vs (gN i) := by
  refine PG.weak (pg_name hN hi hx hf) fun v σ H Q q => ?_
  obtain ⟨ρ, S, A, d, ρ', c, r, h, q⟩ := q
  unfold gN at h
  split at h
  · rename_i hp
    cases h
    refine q _ ⟨by simp, fun j hj => ?_⟩ (c.setv (.inr (.inl r.cool)) fun n z => absurd z (cool_loc hp))
    rw [List.getElem?_set_ne]
    intro z; subst z; exact hj hv
  · cases h
theorem sgs_nil : SGs s [] vs gs0 := by
  refine PGs.weak pgs_nil fun xs σ H Q q => ?_
  obtain ⟨ρ, S, A, ds, ρ', c, r, h, q⟩ := q
  cases ds with
  | nil => cases r; cases h; exact ⟨rfl, q σ (.refl _ _) c⟩
  | cons _ _ => cases h
theorem sgs_cons {e : Expr} {es : List Expr} {t : Tg} {u : Tgs} (h1 : SG s e vs t) (h2 : SGs s es vs u)
    (hs : (assignEach (e :: es) s.X.env).map (·.2) = assign e s.X.env :: (assignEach es s.X.env).map (·.2) := by rfl) : SGs s (e :: es) vs (gsC t u) := by
  refine PGs.weak (pgs_cons h1 h2 hs) fun xs σ H Q q => ?_
  obtain ⟨ρ, S, A, ds, ρ', c, r, h, q⟩ := q
  cases ds with
  | nil => cases h
  | cons d ds =>
    cases r with
    | cons r rs =>
      obtain ⟨ρ1, e1, e2⟩ := Option.bind_eq_some_iff.mp (show (t d ρ).bind (fun ρ1 => u ds ρ1) = some ρ' from h)
      exact ⟨_, _, rfl, ρ, S, A, d, ρ1, c, r, e1, fun σ1 t1 c1 => ⟨ρ1, S, A, ds, ρ', c1, rs, e2, fun σ2 t2 c2 => q σ2 (t1.trans t2) c2⟩⟩
theorem sg_tup {es : List Expr} {k : Nat} {t : Tgs} {n : Nat} (hc : s.X.calm = true) (h : SGs s es vs t)
    (hn : (assignEach es s.X.env).length = n := by rfl) (hst : (assignEach es s.X.env).findIdx? (·.1) = none := by rfl) (ht : ∀ ds ρ ρ', t ds ρ = some ρ' → ds.length = n) : SG s (.Tuple es k pos) vs (gT t) := by
  refine PG.weak (pg_tup hc h hn hst) fun v σ H Q q => ?_
  obtain ⟨ρ, S, A, d, ρ', c, r, h, q⟩ := q
  cases r with
  | tup ha ra => exact ⟨_, _, rfl, ha, by rw [ra.length]; exact ht _ _ _ h, ρ, S, A, _, ρ', c, ra, h, q⟩
  | _ => cases h
theorem gs0_len : ∀ ds ρ ρ', gs0 ds ρ = some ρ' → ds.length = 0 := fun ds ρ ρ' h => by
  cases ds with
  | nil => rfl
  | cons _ _ => cases h
theorem gsC_len {t : Tg} {u : Tgs} {n : Nat} (hu : ∀ ds ρ ρ', u ds ρ = some ρ' → ds.length = n) : ∀ ds ρ ρ', gsC t u ds ρ = some ρ' → ds.length = n + 1 := fun ds ρ ρ' h => by
  cases ds with
  | nil => cases h
  | cons d ds =>
    obtain ⟨ρ1, e1, e2⟩ := Option.bind_eq_some_iff.mp (show (t d ρ).bind (fun ρ1 => u ds ρ1) = some ρ' from h)
    rw [List.length_cons, hu _ _ _ e2]
end

/-! ### what is walked -/
/-- the iterator J yields just the items ds, at every later state -/
def ItOk (s : Sit) (A : Wy) (S : Store) (H : Hp) (J : It) (ds : List D) : Prop :=
  ∀ A' S' H', Ext (OwC A S) H H' → Grow H (Own A S) (Own A' S') → Cells s.X.K A' S' H' →
    (∀ (i : Nat) (d : D), ds[i]? = some d → J.go i H' ∧ ∀ x H'', J.yld i H' x H'' → Same H' H'' ∧ Rp s.X.K H'' (Own A' S') x d) ∧ J.stop ds.length H'
abbrev Src := Rho → Store → Res (List D)
def IOut (s : Sit) (A : Wy) (S : Store) (H : Hp) (σ : St) (R : It → Hp → Prop) : Res (List D) → Prop
  | .ok ds S' => ∀ J H', Pst s.X.K A S H S' H' → ItOk s A S' H' J ds → R J H'
  | .exc c fs S' => ∀ dd H', Pst s.X.K A S H S' H' → ExAt s.X.K H' (Own A S') c dd fs → s.W (.ref (s.cad c)) dd σ H'
  | .bad => False
def tDi (s : Sit) (m : Src) : TI := fun σ H R => ∃ ρ S A, Cn s ρ S A σ H ∧ IOut s A S H σ R (m ρ S)
def SI (s : Sit) (tg iter : Expr) (m : Src) : Prop := PI s.X tg iter (tDi s m)
section
variable {s : Sit} {ρ : Rho} {S S1 : Store} {A : Wy} {σ : St} {H H1 : Hp}
theorem PI.weak {X : Cx} {tg e : Expr} {t t' : TI} (h : PI X tg e t) (w : ∀ σ H Q, t' σ H Q → t σ H Q) : PI X tg e t' := ⟨fun pins s σ H Q I q => h.run pins s σ H Q I (w _ _ _ q)⟩
theorem IOut.on {Q : It → Hp → Prop} {r : Res (List D)} (p : Pst s.X.K A S H S1 H1) (h : IOut s A S H σ Q r) : IOut s A S1 H1 σ Q r := by
  cases r with
  | ok d S2 => intro v H2 p2 r2; exact h v H2 (p.trans p2) r2
  | exc x fs S2 => intro dd H2 p2 q; exact h dd H2 (p.trans p2) q
  | bad => exact h
theorem tD_bindI {m : ME} {k : D → Store → Res (List D)} {Q : It → Hp → Prop} {Q' : VK} (c : Cn s ρ S A σ H) (h : IOut s A S H σ Q ((m ρ S).bind k))
    (go : ∀ d S1 v H1, m ρ S = .ok d S1 → Pst s.X.K A S H S1 H1 → Cn s ρ S1 A σ H1 → RpS s.X.K s.Z A S1 H1 v d → IOut s A S1 H1 σ Q (k d S1) → Q' v H1) : tD s m σ H Q' := by
  refine ⟨ρ, S, A, c, ?_⟩
  cases e : m ρ S with
  | ok d S1 => intro v H1 p r f; rw [e] at h; exact go d S1 v H1 e p (c.step p) r (IOut.on p h)
  | exc x fs S1 => intro dd H1 p q; rw [e] at h; exact h dd H1 p q
  | bad => rw [e] at h; exact h
theorem tDa_bindI {m : MA} {k : List D → Store → Res (List D)} {Q : It → Hp → Prop} {Q' : List V → Hp → Prop} (c : Cn s ρ S A σ H) (h : IOut s A S H σ Q ((m ρ S).bind k))
    (go : ∀ ds S1 vs H1, m ρ S = .ok ds S1 → Pst s.X.K A S H S1 H1 → Cn s ρ S1 A σ H1 → RpL s.X.K s.Z A S1 H1 vs ds → IOut s A S1 H1 σ Q (k ds S1) → Q' vs H1) : tDa s m σ H Q' := by
  refine ⟨ρ, S, A, c, ?_⟩
  cases e : m ρ S with
  | ok d S1 => intro v H1 p r; rw [e] at h; exact go d S1 v H1 e p (c.step p) r (IOut.on p h)
  | exc x fs S1 => intro dd H1 p q; rw [e] at h; exact h dd H1 p q
  | bad => rw [e] at h; exact h
/-- items of a list that stays, or of a tuple -/
theorem SqL.rdext {K : PySem.W.Frag} {H H' : Hp} {O : Ow} {a : Addr} {xs : List V} {f : Bool} {ds : List D} (ow : Owns H O) (e : Ext O H H') (r : Rp K H O (.ref a) (.lst f ds)) (h : H a = some (.lst xs)) : SqL K H' a xs := by
  cases r with
  | lst n h' _ => exact .of (e _ _ h n)
/-- a value whose items are walked: a list or a tuple that nobody changes -/
def vals : D → Option (List D)
  | .lst _ xs => some xs
  | .rol xs => some xs
  | _ => none
theorem list_later {v : V} {d : D} {ds : List D} (c : Cells s.X.K A S H) (r : Rp s.X.K H (Own A S) v d) (h : vals d = some ds) : ∃ a xs, v = .ref a ∧ SqL s.X.K H a xs ∧ xs.length = ds.length ∧
    ∀ A' S' H', Ext (OwC A S) H H' → Grow H (Own A S) (Own A' S') → SqL s.X.K H' a xs ∧ RpAll s.X.K H' (Own A' S') xs ds := by
  cases r with
  | lst n h' ra => cases h; exact ⟨_, _, rfl, .of h', ra.length, fun A' S' H' e g => ⟨.of (e.own _ _ h' n), ra.ext c.owns e.own g⟩⟩
  | rol h' ra => cases h; exact ⟨_, _, rfl, h'.seq, ra.length, fun A' S' H' e g => ⟨(h'.ext c.owns e.own).seq, ra.ext c.owns e.own g⟩⟩
  | _ => cases h
theorem tup_later {v : V} {ds : List D} (c : Cells s.X.K A S H) (r : Rp s.X.K H (Own A S) v (.tup ds)) : ∃ a xs, v = .ref a ∧ SqT s.X.K H a xs ∧ xs.length = ds.length ∧
    ∀ A' S' H', Ext (OwC A S) H H' → Grow H (Own A S) (Own A' S') → SqT s.X.K H' a xs ∧ RpAll s.X.K H' (Own A' S') xs ds := by
  cases r with
  | tup h' ra => exact ⟨_, _, rfl, h', ra.length, fun A' S' H' e g => ⟨SqT.ext c.owns e.own h', ra.ext c.owns e.own g⟩⟩
end

/-- for x in e, e a list -/
def srL (m : ME) : Src := fun ρ S => (m ρ S).bind fun d S1 => match d with
  | .lst _ xs => .ok xs S1
  | .rol xs => .ok xs S1
  | _ => .bad
/-- for x in e, e a tuple -/
def srT (m : ME) : Src := fun ρ S => (m ρ S).bind fun d S1 => match d with
  | .tup xs => .ok xs S1
  | _ => .bad
def enumFrom (k : Nat) : List D → List D
  | [] => []
  | d :: ds => .tup [.int (k : Nat), d] :: enumFrom (k + 1) ds
def zipD : List D → List D → List D
  | x :: xs, y :: ys => .tup [x, y] :: zipD xs ys
  | _, _ => []
theorem enumFrom_get : ∀ (ds : List D) (k i : Nat) (x : D), (enumFrom k ds)[i]? = some x → ∃ d, ds[i]? = some d ∧ x = .tup [.int ((k + i : Nat) : Int), d]
  | [], _, _, _, h => by simp [enumFrom] at h
  | d :: ds, k, 0, x, h => by simp [enumFrom] at h; exact ⟨d, rfl, h.symm⟩
  | d :: ds, k, i + 1, x, h => by
    obtain ⟨e, h1, h2⟩ := enumFrom_get ds (k + 1) i x (by simpa [enumFrom] using h)
    exact ⟨e, by simpa using h1, by rw [h2, Nat.add_right_comm, Nat.add_assoc]⟩
theorem enumFrom_len : ∀ (ds : List D) (k : Nat), (enumFrom k ds).length = ds.length
  | [], _ => rfl
  | d :: ds, k => by simp [enumFrom, enumFrom_len ds]
theorem zipD_get : ∀ (xs ys : List D) (i : Nat) (z : D), (zipD xs ys)[i]? = some z → ∃ x y, xs[i]? = some x ∧ ys[i]? = some y ∧ z = .tup [x, y]
  | [], _, _, _, h => by simp [zipD] at h
  | _ :: _, [], _, _, h => by simp [zipD] at h
  | x :: xs, y :: ys, 0, z, h => by simp [zipD] at h; exact ⟨x, y, rfl, rfl, h.symm⟩
  | x :: xs, y :: ys, i + 1, z, h => by
    obtain ⟨a, b, h1, h2, h3⟩ := zipD_get xs ys i z (by simpa [zipD] using h)
    exact ⟨a, b, by simpa using h1, by simpa using h2, h3⟩
theorem zipD_len : ∀ (xs ys : List D), (zipD xs ys).length = min xs.length ys.length
  | [], _ => by simp [zipD]
  | _ :: _, [] => by simp [zipD]
  | x :: xs, y :: ys => by simp [zipD, zipD_len xs ys, Nat.succ_min_succ]
/-- enumerate(e), zip(e, f) -/
def srE (n : MA) : Src := fun ρ S => (n ρ S).bind fun ds S1 => match ds with
  | [.lst _ xs] => .ok (enumFrom 0 xs) S1
  | [.rol xs] => .ok (enumFrom 0 xs) S1
  | _ => .bad
def srZ (n : MA) : Src := fun ρ S => (n ρ S).bind fun ds S1 => match ds with
  | [.lst _ xs, .lst _ ys] => .ok (zipD xs ys) S1
  | [.tup xs, .tup ys] => .ok (zipD xs ys) S1
  | _ => .bad
def rngD (lo : Int) : Nat → List D
  | 0 => []
  | n + 1 => .int lo :: rngD (lo + 1) n
theorem rngD_get : ∀ (n : Nat) (lo : Int) (i : Nat) (x : D), (rngD lo n)[i]? = some x → i < n ∧ x = .int (lo + (i : Nat))
  | 0, _, _, _, h => by simp [rngD] at h
  | n + 1, lo, 0, x, h => by simp [rngD] at h; exact ⟨by omega, by rw [← h]; simp⟩
  | n + 1, lo, i + 1, x, h => by
    obtain ⟨h1, h2⟩ := rngD_get n (lo + 1) i x (by simpa [rngD] using h)
    exact ⟨by omega, by rw [h2]; congr 1; omega⟩
theorem rngD_len : ∀ (n : Nat) (lo : Int), (rngD lo n).length = n
  | 0, _ => rfl
  | n + 1, lo => by simp [rngD, rngD_len n]
/-- range(n), range(a, b), range(a, b, -1) -/
def srR1 (n : MA) : Src := fun ρ S => (n ρ S).bind fun ds S1 => match ds with
  | [.int j] => if j ≤ 16777216 ∧ -16777216 ≤ j then .ok (rngD 0 j.toNat) S1 else .bad
  | _ => .bad
def srR2 (n : MA) : Src := fun ρ S => (n ρ S).bind fun ds S1 => match ds with
  | [.int i, .int j] => if j ≤ 16777216 ∧ -16777216 ≤ j ∧ i ≤ 16777216 ∧ -16777216 ≤ i then .ok (rngD i (j - i).toNat) S1 else .bad
  | _ => .bad
section
variable {s : Sit} {tg e : Expr} {m : ME}
theorem si_list (he : SE s e m) : SI s tg e (srL m) := by
  refine PI.weak (pi_list he) fun σ H R q => ?_
  obtain ⟨ρ, S, A, c, q⟩ := q
  refine tD_bindI c q fun d S1 v H1 _ p1 c1 r1 q1 => ?_
  have key : ∀ ds, vals d = some ds → IOut s A S1 H1 σ R (.ok ds S1) → ∃ a, v = .ref a ∧ (∃ xs, SqL s.X.K H1 a xs) ∧ R (Itl s.X.K a) H1 := fun ds hv q1 => by
    have r2 : Rp s.X.K H1 (Own A S1) v d := r1.rp (fun n z => by subst z; cases hv) fun c fs z => by subst z; cases hv
    obtain ⟨a, xs, rfl, hs, hl, later⟩ := list_later c1.cells r2 hv
    refine ⟨a, rfl, ⟨xs, hs⟩, q1 _ H1 (.refl c1.cells) fun A' S' H' e g c' => ⟨fun i d hd => ?_, ?_⟩⟩
    · obtain ⟨l1, l2⟩ := later A' S' H' e g
      obtain ⟨x, hx, rx⟩ := l2.get hd
      refine ⟨⟨xs, x, l1, hx⟩, fun y H'' hy => ?_⟩
      obtain ⟨rfl, hy⟩ := hy
      have := hy xs l1
      rw [hx] at this; cases this
      exact ⟨.refl _, rx⟩
    · obtain ⟨l1, l2⟩ := later A' S' H' e g
      exact ⟨xs, l1, by omega⟩
  cases d with
  | lst f ds => exact key ds rfl q1
  | rol ds => exact key ds rfl q1
  | _ => exact q1.elim
theorem si_tup (he : SE s e m) : SI s tg e (srT m) := by
  refine PI.weak (pi_tup he) fun σ H R q => ?_
  obtain ⟨ρ, S, A, c, q⟩ := q
  refine tD_bindI c q fun d S1 v H1 _ p1 c1 r1 q1 => ?_
  cases d with
  | tup ds =>
    have r2 : Rp s.X.K H1 (Own A S1) v (.tup ds) := r1.rp (fun n z => nomatch z) fun c fs z => nomatch z
    obtain ⟨a, xs, rfl, hs, hl, later⟩ := tup_later c1.cells r2
    refine ⟨a, rfl, ⟨xs, hs⟩, q1 _ H1 (.refl c1.cells) fun A' S' H' e g c' => ⟨fun i d hd => ?_, ?_⟩⟩
    · obtain ⟨l1, l2⟩ := later A' S' H' e g
      obtain ⟨x, hx, rx⟩ := l2.get hd
      refine ⟨⟨xs, x, l1, hx⟩, fun y H'' hy => ?_⟩
      obtain ⟨rfl, hy⟩ := hy
      have := hy xs l1
      rw [hx] at this; cases this
      exact ⟨.refl _, rx⟩
    · obtain ⟨l1, l2⟩ := later A' S' H' e g
      exact ⟨xs, l1, by omega⟩
  | _ => exact q1.elim
theorem rng_ok {A : Wy} {S : Store} {H : Hp} (lo : Int) (n : Nat) : ItOk s A S H (Itr lo n) (rngD lo n) := fun A' S' H' _ _ c' =>
  ⟨fun i d hd => by
    obtain ⟨h1, rfl⟩ := rngD_get n lo i d hd
    refine ⟨h1, fun x H'' hy => ?_⟩
    obtain ⟨rfl, rfl⟩ := hy
    exact ⟨.refl _, .int _⟩, by rw [rngD_len]; exact Nat.le_refl _⟩
theorem RpL.int1 {K : PySem.W.Frag} {Z : ZT} {A : Wy} {S : Store} {H : Hp} {vs : List V} {j : Int} (r : RpL K Z A S H vs [.int j]) : vs = [.int j] := by
  cases r with
  | cons r t =>
    cases t
    rcases r with ⟨_, _, z, _⟩ | r | ⟨_, _, _, z, _⟩
    · cases z
    · cases r; rfl
    · cases z
theorem RpL.int2 {K : PySem.W.Frag} {Z : ZT} {A : Wy} {S : Store} {H : Hp} {vs : List V} {i j : Int} (r : RpL K Z A S H vs [.int i, .int j]) : vs = [.int i, .int j] := by
  cases r with
  | cons r t =>
    rw [t.int1]
    rcases r with ⟨_, _, z, _⟩ | r | ⟨_, _, _, z, _⟩
    · cases z
    · cases r; rfl
    · cases z
theorem si_range1 {a : Expr} {n : MA} {p pos : Pos} (hg : Gl s.X "range") (hm : s.X.mg "range" = none) (ha : SA s [a] n) (hs : starEach [a] s.X.env = [(false, eval a s.X.env)] := by rfl) : SI s tg (.Call (.Name "range" p) [a] [] pos) (srR1 n) := by
  refine PI.weak (pi_range1 hg hm ha hs) fun σ H R q => ?_
  obtain ⟨ρ, S, A, c, q⟩ := q
  refine tDa_bindI c q fun ds S1 vs H1 em p1 c1 r1 q1 => ?_
  split at q1
  · rename_i j
    split at q1
    · rename_i hj
      exact ⟨j, r1.int1, by omega, by omega, q1 _ H1 (.refl c1.cells) (rng_ok 0 _)⟩
    · exact q1.elim
  · exact q1.elim
theorem si_range2 {a b : Expr} {n : MA} {p pos : Pos} (hg : Gl s.X "range") (hm : s.X.mg "range" = none) (ha : SA s [a, b] n) (hs : starEach [a, b] s.X.env = [(false, eval a s.X.env), (false, eval b s.X.env)] := by rfl) (hs2 : starEach [b] s.X.env = [(false, eval b s.X.env)] := by rfl) :
    SI s tg (.Call (.Name "range" p) [a, b] [] pos) (srR2 n) := by
  refine PI.weak (pi_range2 hg hm ha hs hs2) fun σ H R q => ?_
  obtain ⟨ρ, S, A, c, q⟩ := q
  refine tDa_bindI c q fun ds S1 vs H1 em p1 c1 r1 q1 => ?_
  split at q1
  · rename_i i j
    split at q1
    · rename_i hj
      exact ⟨i, j, r1.int2, ⟨by omega, by omega, by omega, by omega⟩, q1 _ H1 (.refl c1.cells) (rng_ok i _)⟩
    · exact q1.elim
  · exact q1.elim
theorem RpL.one {K : PySem.W.Frag} {Z : ZT} {A : Wy} {S : Store} {H : Hp} {vs : List V} {d : D} (r : RpL K Z A S H vs [d]) : ∃ v, vs = [v] ∧ RpS K Z A S H v d := by
  cases r with
  | cons r t => cases t; exact ⟨_, rfl, r⟩
theorem RpL.two {K : PySem.W.Frag} {Z : ZT} {A : Wy} {S : Store} {H : Hp} {vs : List V} {d e : D} (r : RpL K Z A S H vs [d, e]) : ∃ v w, vs = [v, w] ∧ RpS K Z A S H v d ∧ RpS K Z A S H w e := by
  cases r with
  | cons r t => obtain ⟨w, rfl, r2⟩ := t.one; exact ⟨_, w, rfl, r, r2⟩
theorem pair_new {A' : Wy} {S' : Store} {H' : Hp} {T : Addr} {x y : V} {d e : D} (c : Cells s.X.K A' S' H') (hT : H' T = none) (rx : Rp s.X.K H' (Own A' S') x d) (ry : Rp s.X.K H' (Own A' S') y e) :
    Same H' (upd H' T (.tup [x, y])) ∧ Rp s.X.K (upd H' T (.tup [x, y])) (Own A' S') (.ref T) (.tup [d, e]) :=
  ⟨same_upd hT, .tup (.of upd_same) (.cons (rx.same c (same_upd hT)) (.cons (ry.same c (same_upd hT)) .nil))⟩
theorem si_enum {n : MA} {p pos tpos : Pos} {elts : List Expr} {kk : Nat} (hg : Gl s.X "enumerate") (hm : s.X.mg "enumerate" = none) (ha : SA s [e] n) (hs : starEach [e] s.X.env = [(false, eval e s.X.env)] := by rfl) :
    SI s (.Tuple elts kk tpos) (.Call (.Name "enumerate" p) [e] [] pos) (srE n) := by
  refine PI.weak (pi_enum hg hm ha hs) fun σ H R q => ?_
  obtain ⟨ρ, S, A, c, q⟩ := q
  refine tDa_bindI c q fun ds S1 vs H1 em p1 c1 r1 q1 => ?_
  have key : ∀ d xs, vals d = some xs → ds = [d] → IOut s A S1 H1 σ R (.ok (enumFrom 0 xs) S1) → iEnum s.X.K (fun σ H Q => Q vs H) σ H1 R := fun d ds' hv e q2 => by
    subst e
    obtain ⟨v, rfl, r3⟩ := r1.one
    have r2 : Rp s.X.K H1 (Own A S1) v d := r3.rp (fun n z => by subst z; cases hv) fun c fs z => by subst z; cases hv
    obtain ⟨a, xs, rfl, hs, hl, later⟩ := list_later c1.cells r2 hv
    refine ⟨a, xs, rfl, hs, q2 _ H1 (.refl c1.cells) fun A' S' H' e g c' => ⟨fun i x hd => ?_, ?_⟩⟩
    · obtain ⟨l1, l2⟩ := later A' S' H' e g
      obtain ⟨y, h1, rfl⟩ := enumFrom_get ds' 0 i x hd
      obtain ⟨w, hw, rw'⟩ := l2.get h1
      refine ⟨⟨xs, w, l1, hw⟩, fun z H'' hy => ?_⟩
      obtain ⟨T, u, rfl, hT, rfl, hu⟩ := hy
      have := hu xs l1
      rw [hw] at this; cases this
      rw [Nat.zero_add]
      exact pair_new c' hT (.int _) rw'
    · obtain ⟨l1, l2⟩ := later A' S' H' e g
      exact ⟨xs, l1, by rw [enumFrom_len]; omega⟩
  split at q1
  · exact key _ _ rfl rfl q1
  · exact key _ _ rfl rfl q1
  · exact q1.elim
theorem si_zip {e2 : Expr} {n : MA} {p pos tpos : Pos} {elts : List Expr} {kk : Nat} (hg : Gl s.X "zip") (hm : s.X.mg "zip" = none) (ha : SA s [e, e2] n)
    (hs : starEach [e, e2] s.X.env = (false, eval e s.X.env) :: starEach [e2] s.X.env := by rfl) (hpl : (backTo pos (starEach [e2] s.X.env)).any (·.1) = false := by rfl) :
    SI s (.Tuple elts kk tpos) (.Call (.Name "zip" p) [e, e2] [] pos) (srZ n) := by
  refine PI.weak (RZ.pi_zipA hg hm ha hs hpl) fun σ H R q => ?_
  obtain ⟨ρ, S, A, c, q⟩ := q
  refine tDa_bindI c q fun ds S1 vs H1 em p1 c1 r1 q1 => ?_
  split at q1
  · rename_i f1 xs f2 ys
    obtain ⟨v, w, rfl, r1, r2⟩ := r1.two
    obtain ⟨a, us, rfl, hs, hl, later⟩ := list_later c1.cells (r1.rp (fun n z => nomatch z) fun c fs z => nomatch z) rfl
    obtain ⟨b, ws, rfl, hs2, hl2, later2⟩ := list_later c1.cells (r2.rp (fun n z => nomatch z) fun c fs z => nomatch z) rfl
    refine ⟨a, b, us, ws, rfl, .inl ⟨hs, hs2, q1 _ H1 (.refl c1.cells) fun A' S' H' e g c' => ⟨fun i x hd => ?_, ?_⟩⟩⟩
    · obtain ⟨l1, l2⟩ := later A' S' H' e g
      obtain ⟨l3, l4⟩ := later2 A' S' H' e g
      obtain ⟨y, z, h1, h2, rfl⟩ := zipD_get xs ys i x hd
      obtain ⟨x1, hx, rx⟩ := l2.get h1
      obtain ⟨x2, hx2, rx2⟩ := l4.get h2
      refine ⟨⟨us, ws, x1, x2, l1, l3, hx, hx2⟩, fun z H'' hy => ?_⟩
      obtain ⟨T, u1, u2, rfl, hT, rfl, hu1, hu2⟩ := hy
      have t1 := hu1 us l1
      have t2 := hu2 ws l3
      rw [hx] at t1; cases t1
      rw [hx2] at t2; cases t2
      exact pair_new c' hT rx rx2
    · obtain ⟨l1, l2⟩ := later A' S' H' e g
      obtain ⟨l3, l4⟩ := later2 A' S' H' e g
      exact ⟨us, ws, l1, l3, by rw [zipD_len]; omega⟩
  · rename_i xs ys
    obtain ⟨v, w, rfl, r1, r2⟩ := r1.two
    obtain ⟨a, us, rfl, hs, hl, later⟩ := tup_later c1.cells (r1.rp (fun n z => nomatch z) fun c fs z => nomatch z)
    obtain ⟨b, ws, rfl, hs2, hl2, later2⟩ := tup_later c1.cells (r2.rp (fun n z => nomatch z) fun c fs z => nomatch z)
    refine ⟨a, b, us, ws, rfl, .inr ⟨hs, hs2, q1 _ H1 (.refl c1.cells) fun A' S' H' e g c' => ⟨fun i x hd => ?_, ?_⟩⟩⟩
    · obtain ⟨l1, l2⟩ := later A' S' H' e g
      obtain ⟨l3, l4⟩ := later2 A' S' H' e g
      obtain ⟨y, z, h1, h2, rfl⟩ := zipD_get xs ys i x hd
      obtain ⟨x1, hx, rx⟩ := l2.get h1
      obtain ⟨x2, hx2, rx2⟩ := l4.get h2
      refine ⟨⟨us, ws, x1, x2, l1, l3, hx, hx2⟩, fun z H'' hy => ?_⟩
      obtain ⟨T, u1, u2, rfl, hT, rfl, hu1, hu2⟩ := hy
      have t1 := hu1 us l1
      have t2 := hu2 ws l3
      rw [hx] at t1; cases t1
      rw [hx2] at t2; cases t2
      exact pair_new c' hT rx rx2
    · obtain ⟨l1, l2⟩ := later A' S' H' e g
      obtain ⟨l3, l4⟩ := later2 A' S' H' e g
      exact ⟨us, ws, l1, l3, by rw [zipD_len]; omega⟩
  · exact q1.elim
end

/-! ### for -/
/-- a loop's turns -/
def forL (t : Tg) (b : MS) : List D → MS
  | [] => fun ρ S => .nx ρ S
  | d :: ds => fun ρ S => match t d ρ with
    | none => .bad
    | some ρ1 => match b ρ1 S with
      | .nx ρ2 S2 => forL t b ds ρ2 S2
      | .ct ρ2 S2 => forL t b ds ρ2 S2
      | .bk ρ2 S2 => .nx ρ2 S2
      | r => r
def mFor (src : Src) (t : Tg) (b : MS) : MS := fun ρ S => bindE (src ρ S) ρ fun ds S1 => forL t b ds ρ S1
def mWhile (c : MT) (b : MS) : Nat → MS
  | 0 => fun _ _ => .bad
  | k + 1 => fun ρ S => bindE (c ρ S) ρ fun t S1 => if t then (match b ρ S1 with
    | .nx ρ2 S2 => mWhile c b k ρ2 S2
    | .ct ρ2 S2 => mWhile c b k ρ2 S2
    | .bk ρ2 S2 => .nx ρ2 S2
    | r => r) else .nx ρ S1
section
variable {s : Sit} {ρ : Rho} {S S1 : Store} {A : Wy} {σ : St} {H H1 : Hp}
theorem tDi_bindS {m : Src} {k : List D → Store → ResS} {D : Ends} {R : It → Hp → Prop} (c : Cn s ρ S A σ H) (h : SOut s A S H D (bindE (m ρ S) ρ k))
    (go : ∀ ds S1 J H1, Pst s.X.K A S H S1 H1 → Cn s ρ S1 A σ H1 → ItOk s A S1 H1 J ds → SOut s A S1 H1 D (k ds S1) → R J H1) : tDi s m σ H R := by
  refine ⟨ρ, S, A, c, ?_⟩
  cases e : m ρ S with
  | ok d S1 => intro J H1 p r; rw [e] at h; exact go d S1 J H1 p (c.step p) r (SOut.on (p.pss c.cells) h)
  | exc x fs S1 => intro dd H1 p q; rw [e] at h; exact h dd σ H1 A (p.pss c.cells) (c.step p) q
  | bad => rw [e] at h; exact h
theorem Pss.growO {b : Nat} {A A' : Wy} {S S' : Store} {H H' : Hp} (p : Pss b A S H A' S' H') : Grow H (Own A S) (Own A' S') := fun a z => by
  rcases z with z | z
  · exact (p.grow a z).imp .inl id
  · rw [p.ph] at z; exact .inl (.inr z)
variable {st : Stmt} {tg iter c : Expr} {body : List Stmt} {src : Src} {t : Tg} {b : MS} {vs : List Nat} {pos : Pos}
theorem s_for (hp : PassesOwn (model s.X.prog s.X.w) s.X.A s.X.env s.X.xe) (hc : s.X.calm = true) (hi : SI s tg iter src) (hg : SG s tg vs t) (hb : SSs s body b)
    (hs : ∀ x, foldedSetIterable iter s.X.env x = pure x := by intro _; rfl) : SS s (.For tg iter body [] pos) (mFor src t b) := by
  refine PS.weak (ps_for hp hc hi hg hb hs) fun D σ H q => ?_
  obtain ⟨ρ, S, A, cn, q⟩ := q
  refine tDi_bindS cn q fun ds S1 J H1 p1 c1 it q1 => ?_
  refine ⟨fun i m σ' H' => ∃ ρ' S' A', m = ds.length - i ∧ i ≤ ds.length ∧ Pss s.base A S1 H1 A' S' H' ∧ Cn s ρ' S' A' σ' H' ∧ SOut s A' S' H' D (forL t b (ds.drop i) ρ' S'), ⟨ds.length, ρ, S1, A, rfl, Nat.zero_le _, .refl, c1, q1⟩, ?_⟩
  rintro i m σ' H' ⟨ρ', S', A', rfl, hi', ps, c', q'⟩
  obtain ⟨go, stop⟩ := it A' S' H' ps.ext ps.growO c'.cells
  by_cases hlt : i < ds.length
  · refine .inr ?_
    have hd : ds[i]? = some ds[i] := List.getElem?_eq_getElem hlt
    obtain ⟨g1, g2⟩ := go i ds[i] hd
    rw [List.drop_eq_getElem_cons hlt] at q'
    refine ⟨g1, fun σ2 H2 => ∃ ρ2 S2 A2, Pss s.base A S1 H1 A2 S2 H2 ∧ Cn s ρ2 S2 A2 σ2 H2 ∧ SOut s A2 S2 H2 D (forL t b (ds.drop (i + 1)) ρ2 S2), ?_, fun x H'' hy => ?_⟩
    · rintro σ2 H2 ⟨ρ2, S2, A2, h1, h2, h3⟩
      exact ⟨ds.length - (i + 1), by omega, ρ2, S2, A2, rfl, hlt, h1, h2, h3⟩
    · obtain ⟨sm, rx⟩ := g2 x H'' hy
      have p2 : Pst s.X.K A' S' H' S' H'' := .of_same c'.cells sm
      have c2 := c'.step p2
      have q2 := SOut.on (p2.pss c'.cells) q'
      simp only [forL] at q2
      cases ht : t ds[i] ρ' with
      | none => rw [ht] at q2; exact q2.elim
      | some ρ1 =>
        rw [ht] at q2
        refine ⟨ρ', S', A', ds[i], ρ1, c2, rx, ht, fun σ2 _ c3 => ⟨ρ1, S', A', c3, ?_⟩⟩
        have ps2 : Pss s.base A S1 H1 A' S' H'' := ps.trans (p2.pss c'.cells)
        dsimp only at q2
        cases hb' : b ρ1 S' with
        | nx ρ2 S2 => rw [hb'] at q2; intro σ3 H3 A3 p3 c4; exact ⟨ρ2, S2, A3, ps2.trans p3, c4, SOut.on p3 q2⟩
        | ct ρ2 S2 => rw [hb'] at q2; intro σ3 H3 A3 p3 c4; exact ⟨ρ2, S2, A3, ps2.trans p3, c4, SOut.on p3 q2⟩
        | bk ρ2 S2 => rw [hb'] at q2; exact q2
        | rt d S2 => rw [hb'] at q2; exact q2
        | exc x fs ρ2 S2 => rw [hb'] at q2; exact q2
        | bad => rw [hb'] at q2; exact q2
  · have e : i = ds.length := by omega
    subst e
    rw [List.drop_length] at q'
    exact .inl ⟨stop, q' σ' H' A' .refl c'⟩
theorem s_while {mc : MT} {k : Nat} (hp : PassesOwn (model s.X.prog s.X.w) s.X.A s.X.env s.X.xe) (hc : ST s c mc) (hb : SSs s body b) : SS s (.While c body [] pos) (mWhile mc b k) := by
  refine PS.weak (ps_while hp hc hb) fun D σ H q => ?_
  refine ⟨fun m σ H => tDs s (mWhile mc b m) D σ H, ⟨k, q⟩, ?_⟩
  rintro m σ H ⟨ρ, S, A, cn, q⟩
  cases m with
  | zero => exact q.elim
  | succ m =>
    simp only [mWhile] at q
    refine tDt_bindS cn q fun t S1 H1 _ p1 c1 q1 => ?_
    cases t with
    | false => exact iteF (q1 σ H1 A .refl c1)
    | true =>
      refine iteT ⟨fun σ' H' => tDs s (mWhile mc b m) D σ' H', fun σ' H' h => ⟨m, by omega, h⟩, ρ, S1, A, c1, ?_⟩
      rw [if_pos rfl] at q1
      cases hb' : b ρ S1 with
      | nx ρ2 S2 => rw [hb'] at q1; intro σ3 H3 A3 p3 c4; exact ⟨ρ2, S2, A3, c4, SOut.on p3 q1⟩
      | ct ρ2 S2 => rw [hb'] at q1; intro σ3 H3 A3 p3 c4; exact ⟨ρ2, S2, A3, c4, SOut.on p3 q1⟩
      | bk ρ2 S2 => rw [hb'] at q1; exact q1
      | rt d S2 => rw [hb'] at q1; exact q1
      | exc x fs ρ2 S2 => rw [hb'] at q1; exact q1
      | bad => rw [hb'] at q1; exact q1
end
end Dv

namespace Dv
open PySem PySem.Spec PyProof.Rows L2
set_option autoImplicit false

/-! ### comprehensions -/
def wipeR (ρ : Rho) : List Nat → Rho
  | [] => ρ
  | v :: vs => (wipeR ρ vs).set v none
theorem wipeR_len (ρ : Rho) : ∀ vs : List Nat, (wipeR ρ vs).length = ρ.length
  | [] => rfl
  | v :: vs => by unfold wipeR; rw [List.length_set, wipeR_len ρ vs]
theorem wipeR_some {ρ : Rho} {i : Nat} {d : D} : ∀ {vs : List Nat}, (wipeR ρ vs)[i]? = some (some d) → ρ[i]? = some (some d) ∧ i ∉ vs
  | [], h => ⟨h, by simp⟩
  | v :: vs, h => by
    unfold wipeR at h
    by_cases hi : v = i
    · subst hi
      by_cases hv : v < (wipeR ρ vs).length
      · rw [List.getElem?_set_self hv] at h; cases h
      · rw [List.getElem?_eq_none (by simpa using hv)] at h; cases h
    · rw [List.getElem?_set_ne hi] at h
      obtain ⟨h1, h2⟩ := wipeR_some h
      exact ⟨h1, by simp only [List.mem_cons, not_or]; exact ⟨fun e => hi e.symm, h2⟩⟩
theorem wipe_other {σ : St} {i : Nat} : ∀ {vs : List Nat}, i ∉ vs → (wipe σ vs)[i]? = σ[i]?
  | [], _ => rfl
  | v :: vs, h => by
    unfold wipe
    simp only [List.mem_cons, not_or] at h
    rw [List.getElem?_set_ne (fun z => h.1 z.symm), wipe_other h.2]
theorem wipe_in {σ : St} {i : Nat} : ∀ {vs : List Nat}, i ∈ vs → (wipe σ vs)[i]? = if i < σ.length then some none else none
  | v :: vs, h => by
    unfold wipe
    rw [List.getElem?_set]
    by_cases hv : v = i
    · subst hv
      rw [if_pos rfl, wipe_length]
    · rw [if_neg hv]
      rcases List.mem_cons.mp h with e | h
      · exact absurd e.symm hv
      · exact wipe_in h
theorem wipe_touch {σ σ' : St} {vs : List Nat} (t : Touch vs (wipe σ vs) σ') : wipe σ' vs = wipe σ vs := by
  refine List.ext_getElem? fun i => ?_
  have l : σ'.length = σ.length := by rw [t.1, wipe_length]
  by_cases h : i ∈ vs
  · rw [wipe_in h, wipe_in h, l]
  · rw [wipe_other h, t.2 i h]

def compL (t : Tg) (test : MT) (elt : ME) (ρ : Rho) : List D → Store → Res (List D)
  | [], S => .ok [] S
  | d :: ds, S => match t d ρ with
    | none => .bad
    | some ρ1 => match test ρ1 S with
      | .ok b S1 => if b then (match elt ρ1 S1 with
        | .ok x S2 => if plain x then (match compL t test elt ρ ds S2 with
          | .ok ys S3 => .ok (cool x :: ys) S3
          | _ => .bad) else .bad
        | _ => .bad) else compL t test elt ρ ds S1
      | _ => .bad
def tYesM : MT := fun _ S => .ok true S
def mComp (src : Src) (vs : List Nat) (t : Tg) (test : MT) (elt : ME) : ME := fun ρ S => (src ρ S).bind fun ds S1 => match compL t test elt (wipeR ρ vs) ds S1 with
  | .ok ys S2 => if ys.length ≤ LINE then .ok (.lst true ys) S2 else .bad
  | _ => .bad

/-- the block's situation -/
abbrev Sit.blk (s : Sit) (sh : Shared) (H : Hp) (scope : Scope) (cenv : Env) (fp : List Addr) : Sit := { s with X := s.X.blk sh H scope cenv fp, W := fun _ _ _ _ => False }
def STs (s : Sit) (ifs : List Expr) (m : MT) : Prop := PTs s.X ifs (tDt s m)
theorem PTs.weak {X : Cx} {es : List Expr} {t t' : TT} (h : PTs X es t) (w : ∀ σ H Q, t' σ H Q → t σ H Q) : PTs X es t' := ⟨fun pins s σ H Q I q => h.run pins s σ H Q I (w _ _ _ q)⟩
theorem sts_nil {s : Sit} : STs s [] tYesM := PTs.weak pts_nil fun σ H Q q => by
  obtain ⟨ρ, S, A, c, q⟩ := q
  exact q H (.refl c.cells)
theorem sts_one {s : Sit} {c : Expr} {m : MT} (h : ST s c m) : STs s [c] m := pts_one h

section
variable {s : Sit} {ρ : Rho} {S S1 : Store} {A : Wy} {σ : St} {H H1 : Hp}
theorem RpS.move {K : PySem.W.Frag} {Z : ZT} {A A' : Wy} {S S' : Store} {H H' : Hp} {v : V} {d : D} (ow : Owns H (Own A S)) (e : Ext (Own A S) H H') (g : Grow H (Own A S) (Own A' S')) (hl : A'.loc = A.loc) (l : Lives S S') (h : RpS K Z A S H v d) : RpS K Z A' S' H' v d := by
  rcases h with ⟨n, x, h1, h2, h3⟩ | h | ⟨k, fs, dd, h1, h2, h3⟩
  · obtain ⟨x', h'⟩ := l.get h3
    exact .inl ⟨n, x', h1, by rw [hl]; exact h2, h'⟩
  · exact .inr (.inl (h.ext ow e g))
  · exact .inr (.inr ⟨k, fs, dd, h1, h2, h3.ext ow e g⟩)
/-- the same slots, elsewhere -/
theorem Cn.move {s' : Sit} {A' : Wy} (hK : s'.X.K = s.X.K) (hZ : s'.Z = s.Z) (hb : s'.base = s.base) (c : Cn s ρ S A σ H) (e : Ext (Own A S) H H1) (g : Grow H (Own A S) (Own A' S1)) (hl : A'.loc = A.loc) (l : Lives S S1) (len : S1.length = S.length) (cs : Cells s.X.K A' S1 H1) : Cn s' ρ S1 A' σ H1 :=
  ⟨fun i d h => let ⟨v, h1, h2⟩ := c.slot i d h; ⟨v, h1, by rw [hK, hZ]; exact h2.move c.cells.owns e g hl l⟩, by rw [hK]; exact cs, by rw [hb]; exact c.disc, c.len, by rw [hb, len]; exact c.room⟩
theorem Cn.wiped (c : Cn s ρ S A σ H) (vs : List Nat) : Cn s (wipeR ρ vs) S A (wipe σ vs) H := by
  refine ⟨fun i d h => ?_, c.cells, fun i n h => c.disc i n (wipeR_some h).1, by rw [wipe_length, wipeR_len]; exact c.len, by rw [wipeR_len]; exact c.room⟩
  obtain ⟨h1, h2⟩ := wipeR_some h
  obtain ⟨v, h3, h4⟩ := c.slot i d h1
  exact ⟨v, by rw [wipe_other h2]; exact h3, h4⟩
theorem Ext.trans_own {A : Wy} {S S' : Store} {H H1 H2 : Hp} (l : Lives S S') (free : ∀ a o, H a = some o → ¬ A.ph a → H1 a ≠ none) (a : Ext (Own A S) H H1) (b : Ext (Own A S') H1 H2) : Ext (Own A S) H H2 := fun x o h n => by
  refine b x o (a x o h n) ?_
  rw [l.own A]; exact n

/-- THE RULE of a list comprehension, on the reading's side -/
theorem comp_red {src : Src} {vs : List Nat} {t : Tg} {test : MT} {elt : ME} {Q : VK} {wi : TI} {g : TG} {tt : TT} {te : TE}
    (hwi : ∀ σ H R, tDi s src σ H R → wi σ H R)
    (hg : ∀ (sb : Sit), sb.X.K = s.X.K → sb.Z = s.Z → sb.base = s.base → (∀ c d σ H, sb.W c d σ H → False) → ∀ v σ H Q, tDg sb vs t v σ H Q → g v σ H Q)
    (ht : ∀ (sb : Sit), sb.X.K = s.X.K → sb.Z = s.Z → sb.base = s.base → (∀ c d σ H, sb.W c d σ H → False) → ∀ σ H Q, tDt sb test σ H Q → tt σ H Q)
    (he : ∀ (sb : Sit), sb.X.K = s.X.K → sb.Z = s.Z → sb.base = s.base → (∀ c d σ H, sb.W c d σ H → False) → ∀ σ H Q, tD sb elt σ H Q → te σ H Q)
    {σ : St} {H : Hp} (q : tD s (mComp src vs t test elt) σ H Q) : tLc wi g tt te vs σ H Q := by
  obtain ⟨ρ, S, A, c, q⟩ := q
  refine hwi _ _ _ ⟨ρ, S, A, c, ?_⟩
  unfold mComp at q
  cases es : src ρ S with
  | exc x fs S1 => rw [es] at q; intro dd H1 p z; exact q dd H1 p z
  | bad => rw [es] at q; exact q
  | ok ds S1 =>
  rw [es] at q
  dsimp only [bind_ok] at q
  intro J H1 p1 it Dd hD
  have c1 := c.step p1
  -- the block's own world: the new list is nobody's
  let A' : Wy := ⟨A.loc, fun a => A.ph a ∨ a = Dd⟩
  let sb : Sit := { s with W := fun _ _ _ _ => False }
  have dOwn : ¬ Own A S1 Dd := own_some c1.cells hD
  have oC : ∀ S', OwC A' S' = OwC A S' := fun _ => rfl
  have oO : ∀ S' a, Own A' S' a ↔ Own A S' a ∨ a = Dd := fun S' a => by
    constructor
    · rintro (z | z | z)
      · exact .inl (.inl z)
      · exact .inl (.inr z)
      · exact .inr z
    · rintro ((z | z) | z)
      · exact .inl z
      · exact .inr (.inl z)
      · exact .inr (.inr z)
  have gD : ∀ {S'}, Lives S1 S' → Grow H1 (Own A S1) (Own A' S') := fun {S'} l a z => by
    rcases (oO S' a).mp z with z | z
    · exact .inl (by rw [← l.own A]; exact z)
    · exact .inr (by rw [z]; exact hD)
  cases ec : compL t test elt (wipeR ρ vs) ds S1 with
  | exc _ _ _ => rw [ec] at q; exact q.elim
  | bad => rw [ec] at q; exact q.elim
  | ok ys Sf =>
  rw [ec] at q
  dsimp only at q
  split at q
  case isFalse => exact q.elim
  rename_i hlen
  refine ⟨fun i m H' => ∃ S' accV dn rest, m = ds.length - i ∧ i ≤ ds.length ∧ H' Dd = some (.lst accV) ∧ RpAll s.X.K H' (Own A' S') accV dn ∧ dn ++ rest = ys ∧ compL t test elt (wipeR ρ vs) (ds.drop i) S' = .ok rest Sf ∧
    Ext (OwC A S1) H1 H' ∧ Lives S1 S' ∧ S'.length = S1.length ∧ Cn sb (wipeR ρ vs) S' A' (wipe σ vs) H', ⟨ds.length, S1, [], [], ys, rfl, Nat.zero_le _, upd_same, .nil, rfl, ec, ?_, .refl _, rfl, ?_⟩, ?_⟩
  · intro a o h n
    rw [upd_ne (ne_of_none h hD)]; exact h
  · refine (c1.wiped vs).move (s := s) (s' := sb) rfl rfl rfl (Ext.of_same (same_upd hD)) (gD (.refl _)) rfl (.refl _) rfl ⟨fun n d h => ?_, c1.cells.inj, fun a z => ?_, fun a z => ?_⟩
    · exact (c1.cells.at_ n d h).ext c1.cells.owns (.of_same (same_upd hD)) (gD (.refl _)) fun o q => same_upd hD _ _ q
    · rcases z with z | z
      · obtain ⟨o, q1, q2⟩ := c1.cells.phs a z
        exact ⟨o, same_upd hD _ _ q1, q2⟩
      · exact ⟨.lst [], by rw [z]; exact upd_same, rfl⟩
    · rcases z with z | z
      · exact c1.cells.apart a z
      · intro w; rw [z] at w; exact dOwn (.inl w)
  rintro i m H' ⟨S', accV, dn, rest, rfl, hi, hacc, racc, hys, hc', ext, lv, ln, cb⟩
  obtain ⟨go, stop⟩ := it A' S' H' ext (gD lv) cb.cells
  by_cases hlt : i < ds.length
  · refine .inr ?_
    have hd : ds[i]? = some ds[i] := List.getElem?_eq_getElem hlt
    obtain ⟨g1, g2⟩ := go i ds[i] hd
    rw [List.drop_eq_getElem_cons hlt] at hc'
    simp only [compL] at hc'
    refine ⟨g1, fun H' => ∃ S' accV dn rest, i + 1 ≤ ds.length ∧ H' Dd = some (.lst accV) ∧ RpAll s.X.K H' (Own A' S') accV dn ∧ dn ++ rest = ys ∧ compL t test elt (wipeR ρ vs) (ds.drop (i + 1)) S' = .ok rest Sf ∧
      Ext (OwC A S1) H1 H' ∧ Lives S1 S' ∧ S'.length = S1.length ∧ Cn sb (wipeR ρ vs) S' A' (wipe σ vs) H', ?_, fun x H2 hy => ?_⟩
    · rintro H2 ⟨S2, a2, d2, r2, h1, h2, h3, h4, h5, h6, h7, h8, h9⟩
      exact ⟨ds.length - (i + 1), by omega, S2, a2, d2, r2, rfl, h1, h2, h3, h4, h5, h6, h7, h8, h9⟩
    · obtain ⟨sm, rx⟩ := g2 x H2 hy
      have p2 : Pst s.X.K A' S' H' S' H2 := .of_same cb.cells sm
      have cb2 : Cn sb (wipeR ρ vs) S' A' (wipe σ vs) H2 := cb.step p2
      have ext2 : Ext (OwC A S1) H1 H2 := fun a o h n => sm _ _ (ext a o h n)
      cases ht' : t ds[i] (wipeR ρ vs) with
      | none => rw [ht'] at hc'; cases hc'
      | some ρ1 =>
      rw [ht'] at hc'
      dsimp only at hc'
      refine hg sb rfl rfl rfl (fun _ _ _ _ z => z) _ _ _ _ ⟨wipeR ρ vs, S', A', ds[i], ρ1, cb2, rx, ht', fun σ2 t2 cb3 => ⟨wipe_touch t2, ?_⟩⟩
      cases htt : test ρ1 S' with
      | exc _ _ _ => rw [htt] at hc'; cases hc'
      | bad => rw [htt] at hc'; cases hc'
      | ok b S3 =>
      rw [htt] at hc'
      dsimp only at hc'
      refine ht sb rfl rfl rfl (fun _ _ _ _ z => z) _ _ _ ⟨ρ1, S', A', cb3, ?_⟩
      rw [htt]
      intro H3 p3
      have cb4 : Cn sb ρ1 S3 A' σ2 H3 := cb3.step p3
      have cbw : Cn sb (wipeR ρ vs) S3 A' (wipe σ vs) H3 := cb2.step p3
      have ext3 : Ext (OwC A S1) H1 H3 := fun a o h n => p3.ext a o (ext2 a o h n) (by rw [oC, lv.ownC A]; exact n)
      have lv3 : Lives S1 S3 := lv.trans p3.lives
      have dh3 : H3 Dd = some (.lst accV) := p3.ext _ _ (sm _ _ hacc) (cb.cells.apart Dd (.inr rfl))
      have racc3 : RpAll s.X.K H3 (Own A' S3) accV dn := (racc.step cb.cells p2).step cb2.cells p3
      cases b with
      | false =>
        rw [if_neg Bool.false_ne_true] at hc' ⊢
        exact ⟨S3, accV, dn, rest, hlt, dh3, racc3, hys, hc', ext3, lv3, p3.len.trans ln, cbw⟩
      | true =>
        rw [if_pos rfl] at hc' ⊢
        refine he sb rfl rfl rfl (fun _ _ _ _ z => z) _ _ _ ⟨ρ1, S3, A', cb4, ?_⟩
        cases hel : elt ρ1 S3 with
        | exc _ _ _ => rw [hel] at hc'; cases hc'
        | bad => rw [hel] at hc'; cases hc'
        | ok x S4 =>
        rw [hel] at hc'
        dsimp only at hc'
        split at hc'
        case isFalse => cases hc'
        rename_i hpl
        intro y H4 p4 ry fy
        have dh4 : H4 Dd = some (.lst accV) := p4.ext _ _ dh3 (cb4.cells.apart Dd (.inr rfl))
        have racc4 := racc3.step cb4.cells p4
        cases hr : compL t test elt (wipeR ρ vs) (List.drop (i + 1) ds) S4 with
        | exc _ _ _ => rw [hr] at hc'; cases hc'
        | bad => rw [hr] at hc'; cases hc'
        | ok ys' S5 =>
        rw [hr] at hc'
        dsimp only at hc'
        cases hc'
        have hl : accV.length = dn.length := racc.length
        have hl2 : dn.length < ys.length := by rw [← hys]; simp
        have c5 : Cn sb (wipeR ρ vs) S4 A' (wipe σ vs) H4 := cbw.step p4
        have own5 : Own A' S4 Dd := .inr (.inr rfl)
        have e5 : Ext (Own A' S4) H4 (upd H4 Dd (.lst (accV ++ [y]))) := fun a o h n => by
          rw [upd_ne (fun z => n (by rw [z]; exact own5))]
          exact h
        refine ⟨accV, dh4, by rw [hl, line_eq]; exact Nat.lt_of_lt_of_le hl2 hlen, S4, accV ++ [y], dn ++ [cool x], ys', hlt, upd_same, ?_, by rw [← hys]; simp, hr, ?_, lv3.trans p4.lives, p4.len.trans (p3.len.trans ln), ?_⟩
        · exact (racc4.append (.cons (ry.plain hpl).cool .nil)).ext c5.cells.owns e5 (.refl _ _)
        · intro a o h n
          have : H4 a = some o := p4.ext a o (ext3 a o h n) (by rw [oC, lv3.ownC A]; exact n)
          rw [upd_ne (ne_of_none h hD)]; exact this
        · refine c5.move (s' := sb) rfl rfl rfl e5 (.refl _ _) rfl (.refl _) rfl ⟨fun n d h => ?_, c5.cells.inj, fun a z => ?_, c5.cells.apart⟩
          · refine (c5.cells.at_ n d h).ext c5.cells.owns e5 (.refl _ _) fun o q => ?_
            rw [upd_ne (fun z => c5.cells.apart Dd (.inr rfl) ⟨n, d, h, z⟩)]; exact q
          · by_cases hz : a = Dd
            · rw [hz]; exact ⟨_, upd_same, rfl⟩
            · rw [upd_ne hz]; exact c5.cells.phs a z
  · have e : i = ds.length := by omega
    subst e
    rw [List.drop_length] at hc'
    simp only [compL] at hc'
    cases hc'
    rw [List.append_nil] at hys
    subst hys
    refine .inl ⟨stop, q (.ref Dd) H' ?_ (.inr (.inl (.lst ?_ hacc ?_))) fun _ => ⟨Dd, rfl, p1.free c.cells _ hD, .lst hacc ?_, fun n e h => ?_⟩⟩
    · refine p1.trans ⟨ext, lv, ln, ⟨fun n d h => (cb.cells.at_ n d h).own cb.cells.owns fun x z => (oO _ x).mpr (.inl z), cb.cells.inj, fun a z => cb.cells.phs a (.inl z), fun a z => cb.cells.apart a (.inl z)⟩⟩
    · rintro (z | z)
      · exact cb.cells.apart Dd (.inr rfl) z
      · exact dOwn (.inr z)
    · exact racc.ext cb.cells.owns (.refl _ _) fun x z => .inl ((oO _ x).mpr (.inl z))
    · exact racc.ext cb.cells.owns (.refl _ _) fun x z => .inl ((oO _ x).mpr z)
    · exact (cb.cells.at_ n e h).own cb.cells.owns fun x z => (oO _ x).mpr z

theorem Cn.conv {s s' : Sit} {ρ : Rho} {S : Store} {A : Wy} {σ : St} {H : Hp} (hK : s'.X.K = s.X.K) (hZ : s'.Z = s.Z) (hb : s'.base = s.base) (c : Cn s ρ S A σ H) : Cn s' ρ S A σ H :=
  ⟨by rw [hK, hZ]; exact c.slot, by rw [hK]; exact c.cells, by rw [hb]; exact c.disc, c.len, by rw [hb]; exact c.room⟩
end
section
variable {s s' : Sit} (hK : s'.X.K = s.X.K) (hZ : s'.Z = s.Z) (hb : s'.base = s.base) (hW : ∀ c d σ H, s.W c d σ H → False)
include hK hZ hb
theorem tDg_conv {vs : List Nat} {t : Tg} {v : V} {σ : St} {H : Hp} {Q : St → Hp → Prop} (q : tDg s vs t v σ H Q) : tDg s' vs t v σ H Q := by
  obtain ⟨ρ, S, A, d, ρ', c, r, h, q⟩ := q
  exact ⟨ρ, S, A, d, ρ', c.conv hK hZ hb, by rw [hK]; exact r, h, fun σ' t' c' => q σ' t' (c'.conv hK.symm hZ.symm hb.symm)⟩
include hW
theorem tDt_conv {m : MT} {σ : St} {H : Hp} {Q : Bool → Hp → Prop} (q : tDt s m σ H Q) : tDt s' m σ H Q := by
  obtain ⟨ρ, S, A, c, q⟩ := q
  refine ⟨ρ, S, A, c.conv hK hZ hb, ?_⟩
  cases e : m ρ S with
  | ok b S1 => rw [e] at q; intro H1 p; rw [hK] at p; exact q H1 p
  | exc x fs S1 => rw [e] at q; intro dd H1 p z; rw [hK] at p z; exact (hW _ _ _ _ (q dd H1 p z)).elim
  | bad => rw [e] at q; exact q
theorem tD_conv {m : ME} {σ : St} {H : Hp} {Q : VK} (q : tD s m σ H Q) : tD s' m σ H Q := by
  obtain ⟨ρ, S, A, c, q⟩ := q
  refine ⟨ρ, S, A, c.conv hK hZ hb, ?_⟩
  cases e : m ρ S with
  | ok b S1 => rw [e] at q; intro v H1 p r f; rw [hK] at p f; rw [hK, hZ] at r; exact q v H1 p r f
  | exc x fs S1 => rw [e] at q; intro dd H1 p z; rw [hK] at p z; exact (hW _ _ _ _ (q dd H1 p z)).elim
  | bad => rw [e] at q; exact q
end
section
variable {s : Sit} {elt tg iter : Expr} {ifs : List Expr} {scope : Scope} {own : List (Str × Nat)} {pos : Pos} {src : Src} {vs : List Nat} {t : Tg} {test : MT} {m : ME}
/-- no exception goes out of a block -/
abbrev Sit.mute (s : Sit) : Sit := { s with W := fun _ _ _ _ => False }
theorem se_comp (hc : s.X.calm = true) (hN : s.X.N.Nodup) (hi : SI s tg iter src) (ok : BlkOk s.X.N s.X.env.scope scope own) (hv : own.map (·.2) = vs)
    (hg : ∀ (sh : Shared) (H : Hp) (C : Addr) (cl : List (Str × Addr)) (fp : List Addr), SG (s.blk sh H scope (compEnvC scope cl C s.X.env) fp) tg vs t)
    (ht : ∀ (sh : Shared) (H : Hp) (C : Addr) (cl : List (Str × Addr)) (fp : List Addr), STs (s.blk sh H scope (compEnvC scope cl C s.X.env) fp) ifs test)
    (he : ∀ (sh : Shared) (H : Hp) (C : Addr) (cl : List (Str × Addr)) (fp : List Addr), SE (s.blk sh H scope (compEnvC scope cl C s.X.env) fp) elt m)
    (hs : ∀ x, foldedSetIterable iter s.X.env x = pure x := by intro _; rfl) : SE s (.ListComp elt [⟨tg, iter, ifs, 0⟩] scope pos) (mComp src vs t test m) := by
  subst hv
  refine PE.weak (pe_lc (wi := tDi s src) (g := tDg s.mute (own.map (·.2)) t) (tt := tDt s.mute test) (te := tD s.mute m) hc hN hi ok (fun sh H C cl fp => ?_) (fun sh H C cl fp => ?_) (fun sh H C cl fp => ?_) hs) fun σ H Q q => ?_
  · exact PG.weak (hg sh H C cl fp) fun v σ H2 Q q => tDg_conv (s := s.mute) (s' := s.blk sh H scope (compEnvC scope cl C s.X.env) fp) rfl rfl rfl q
  · exact PTs.weak (ht sh H C cl fp) fun σ H2 Q q => tDt_conv (s := s.mute) (s' := s.blk sh H scope (compEnvC scope cl C s.X.env) fp) rfl rfl rfl (fun _ _ _ _ z => z) q
  · exact PE.weak (he sh H C cl fp) fun σ H2 Q q => tD_conv (s := s.mute) (s' := s.blk sh H scope (compEnvC scope cl C s.X.env) fp) rfl rfl rfl (fun _ _ _ _ z => z) q
  · exact comp_red (s := s) (fun _ _ _ q => q) (fun sb h1 h2 h3 h4 v σ H Q q => tDg_conv (s' := s.mute) h1.symm h2.symm h3.symm q) (fun sb h1 h2 h3 h4 σ H Q q => tDt_conv (s' := s.mute) h1.symm h2.symm h3.symm h4 q) (fun sb h1 h2 h3 h4 σ H Q q => tD_conv (s' := s.mute) h1.symm h2.symm h3.symm h4 q) q
end

/-! ### name = value -/
section
variable {s : Sit} {m : ME} {e : Expr} {pos : Pos}
theorem setV_red {i : Nat} {D : Ends} {σ : St} {H : Hp} (q : tDs s (mSetV s.base i m) D σ H) : tAsg (tD s m) (gName i) D σ H := by
  obtain ⟨ρ, S, A, c, q⟩ := q
  exact tD_bindS c q fun d S1 v H1 _ p1 c1 r1 f1 q1 => holdV_go c1 r1 q1
theorem setO_red {i : Nat} {D : Ends} {σ : St} {H : Hp} (q : tDs s (mSetO s.base i m) D σ H) : tAsg (tD s m) (gName i) D σ H := by
  obtain ⟨ρ, S, A, c, q⟩ := q
  refine ⟨ρ, S, A, c, ?_⟩
  unfold mSetO at q
  cases e : m ρ S with
  | ok d S1 => rw [e] at q; intro v H1 p r f; exact holdO_go c p r f q
  | exc x fs S1 => rw [e] at q; intro dd H1 p z; exact q dd σ H1 A (p.pss c.cells) (c.step p) z
  | bad => rw [e] at q; exact q
theorem s_setV {i : Nat} {x : Str} {pos' : Pos} (hN : s.X.N.Nodup) (hi : s.X.N[i]? = some x) (hx : Loc s.X.env.scope x) (he : SE s e m) (hs : swapsWith e (some (.Name x pos')) pos.line s.X.env = pure false := by rfl) (hf : s.X.fn x = true ∨ s.X.env.scope.names.lookup x = some .local := by first | exact .inl rfl | exact .inr rfl | assumption) :
    SS s (.Assign [.Name x pos'] e pos) (mSetV s.base i m) := PS.weak (ps_set hN hi hx he hs hf) fun _ _ _ q => setV_red q
theorem s_setO {i : Nat} {x : Str} {pos' : Pos} (hN : s.X.N.Nodup) (hi : s.X.N[i]? = some x) (hx : Loc s.X.env.scope x) (he : SE s e m) (hs : swapsWith e (some (.Name x pos')) pos.line s.X.env = pure false := by rfl) (hf : s.X.fn x = true ∨ s.X.env.scope.names.lookup x = some .local := by first | exact .inl rfl | exact .inr rfl | assumption) :
    SS s (.Assign [.Name x pos'] e pos) (mSetO s.base i m) := PS.weak (ps_set hN hi hx he hs hf) fun _ _ _ q => setO_red q
variable {elt tg iter : Expr} {ifs : List Expr} {scope : Scope} {own : List (Str × Nat)} {src : Src} {vs : List Nat} {t : Tg} {test : MT} {me : ME} {spos : Pos}
theorem asg_mono {te te' : TE} {g : TG} (h : ∀ σ H Q, te' σ H Q → te σ H Q) {D : Ends} {σ : St} {H : Hp} (q : tAsg te' g D σ H) : tAsg te g D σ H := h _ _ _ q
theorem lc_core2 {i : Nat} {y : Str} {py : Pos} (hc : s.X.calm = true) (hN : s.X.N.Nodup) (hy : s.X.N[i]? = some y) (hyl : s.X.env.scope.names.lookup y = some .local)
    (hsw : swapsWith (.ListComp elt [⟨tg, iter, ifs, 0⟩] scope pos) (some (.Name y py)) spos.line s.X.env = pure true) (hi : SI s tg iter src) (ok : BlkOk s.X.N s.X.env.scope scope own) (hv : own.map (·.2) = vs)
    (hg : ∀ (sh : Shared) (H : Hp) (C : Addr) (cl : List (Str × Addr)) (fp : List Addr), SG (s.blk sh H scope (compEnvC scope cl C s.X.env) fp) tg vs t)
    (ht : ∀ (sh : Shared) (H : Hp) (C : Addr) (cl : List (Str × Addr)) (fp : List Addr), STs (s.blk sh H scope (compEnvC scope cl C s.X.env) fp) ifs test)
    (he : ∀ (sh : Shared) (H : Hp) (C : Addr) (cl : List (Str × Addr)) (fp : List Addr), SE (s.blk sh H scope (compEnvC scope cl C s.X.env) fp) elt me)
    (hs : ∀ x, foldedSetIterable iter s.X.env x = pure x := by intro _; rfl) : PS s.X (.Assign [.Name y py] (.ListComp elt [⟨tg, iter, ifs, 0⟩] scope pos) spos) (tAsg (tD s (mComp src vs t test me)) (gName i)) := by
  subst hv
  refine PS.weak (ps_setLc (wi := tDi s src) (g := tDg s.mute (own.map (·.2)) t) (tt := tDt s.mute test) (te := tD s.mute me) hc hN hy hyl hsw hi ok (fun sh H C cl fp => ?_) (fun sh H C cl fp => ?_) (fun sh H C cl fp => ?_) hs) fun D σ H q => ?_
  · exact PG.weak (hg sh H C cl fp) fun v σ H2 Q q => tDg_conv (s := s.mute) (s' := s.blk sh H scope (compEnvC scope cl C s.X.env) fp) rfl rfl rfl q
  · exact PTs.weak (ht sh H C cl fp) fun σ H2 Q q => tDt_conv (s := s.mute) (s' := s.blk sh H scope (compEnvC scope cl C s.X.env) fp) rfl rfl rfl (fun _ _ _ _ z => z) q
  · exact PE.weak (he sh H C cl fp) fun σ H2 Q q => tD_conv (s := s.mute) (s' := s.blk sh H scope (compEnvC scope cl C s.X.env) fp) rfl rfl rfl (fun _ _ _ _ z => z) q
  · exact asg_mono (fun σ H Q q => comp_red (s := s) (fun _ _ _ q => q) (fun sb h1 h2 h3 h4 v σ H Q q => tDg_conv (s' := s.mute) h1.symm h2.symm h3.symm q) (fun sb h1 h2 h3 h4 σ H Q q => tDt_conv (s' := s.mute) h1.symm h2.symm h3.symm h4 q) (fun sb h1 h2 h3 h4 σ H Q q => tD_conv (s' := s.mute) h1.symm h2.symm h3.symm h4 q) q) q
theorem s_lcV {i : Nat} {y : Str} {py : Pos} (hc : s.X.calm = true) (hN : s.X.N.Nodup) (hy : s.X.N[i]? = some y) (hyl : s.X.env.scope.names.lookup y = some .local)
    (hsw : swapsWith (.ListComp elt [⟨tg, iter, ifs, 0⟩] scope pos) (some (.Name y py)) spos.line s.X.env = pure true) (hi : SI s tg iter src) (ok : BlkOk s.X.N s.X.env.scope scope own) (hv : own.map (·.2) = vs)
    (hg : ∀ (sh : Shared) (H : Hp) (C : Addr) (cl : List (Str × Addr)) (fp : List Addr), SG (s.blk sh H scope (compEnvC scope cl C s.X.env) fp) tg vs t)
    (ht : ∀ (sh : Shared) (H : Hp) (C : Addr) (cl : List (Str × Addr)) (fp : List Addr), STs (s.blk sh H scope (compEnvC scope cl C s.X.env) fp) ifs test)
    (he : ∀ (sh : Shared) (H : Hp) (C : Addr) (cl : List (Str × Addr)) (fp : List Addr), SE (s.blk sh H scope (compEnvC scope cl C s.X.env) fp) elt me)
    (hs : ∀ x, foldedSetIterable iter s.X.env x = pure x := by intro _; rfl) : SS s (.Assign [.Name y py] (.ListComp elt [⟨tg, iter, ifs, 0⟩] scope pos) spos) (mSetV s.base i (mComp src vs t test me)) :=
  PS.weak (lc_core2 hc hN hy hyl hsw hi ok hv hg ht he hs) fun _ _ _ q => setV_red q
theorem s_lcO {i : Nat} {y : Str} {py : Pos} (hc : s.X.calm = true) (hN : s.X.N.Nodup) (hy : s.X.N[i]? = some y) (hyl : s.X.env.scope.names.lookup y = some .local)
    (hsw : swapsWith (.ListComp elt [⟨tg, iter, ifs, 0⟩] scope pos) (some (.Name y py)) spos.line s.X.env = pure true) (hi : SI s tg iter src) (ok : BlkOk s.X.N s.X.env.scope scope own) (hv : own.map (·.2) = vs)
    (hg : ∀ (sh : Shared) (H : Hp) (C : Addr) (cl : List (Str × Addr)) (fp : List Addr), SG (s.blk sh H scope (compEnvC scope cl C s.X.env) fp) tg vs t)
    (ht : ∀ (sh : Shared) (H : Hp) (C : Addr) (cl : List (Str × Addr)) (fp : List Addr), STs (s.blk sh H scope (compEnvC scope cl C s.X.env) fp) ifs test)
    (he : ∀ (sh : Shared) (H : Hp) (C : Addr) (cl : List (Str × Addr)) (fp : List Addr), SE (s.blk sh H scope (compEnvC scope cl C s.X.env) fp) elt me)
    (hs : ∀ x, foldedSetIterable iter s.X.env x = pure x := by intro _; rfl) : SS s (.Assign [.Name y py] (.ListComp elt [⟨tg, iter, ifs, 0⟩] scope pos) spos) (mSetO s.base i (mComp src vs t test me)) :=
  PS.weak (lc_core2 hc hN hy hyl hsw hi ok hv hg ht he hs) fun _ _ _ q => setO_red q
end
end Dv

namespace Dv
open PySem PySem.Spec PyProof.Rows L2
set_option autoImplicit false

/-! ### defs -/
abbrev Fn := List D → Store → Res D
/-- an argument: no error; a fresh list is the callee's to read -/
def argsOk : List D → Bool
  | [] => true
  | .err _ _ :: _ => false
  | _ :: ds => argsOk ds
def Z0 : ZT := fun _ _ _ => False
def FOut (K : PySem.W.Frag) (cad : Nat → Addr) (A : Wy) (S : Store) (H : Hp) (Q : VK) (E : XK) : Res D → Prop
  | .ok d S' => ∀ v H', Pst K A S H S' H' → RpS K Z0 A S' H' v d → Fresh K A S' H H' v d → Q v H'
  | .exc c fs S' => ∀ dd H', Pst K A S H S' H' → ExAt K H' (Own A S') c dd fs → E (.ref (cad c)) dd H'
  | .bad => False
/-- a def's promise: its data's function -/
def spD (K : PySem.W.Frag) (cad : Nat → Addr) (m : Fn) : Sp := fun vs H Q E => ∃ S A ds, Cells K A S H ∧ RpL K Z0 A S H vs ds ∧ FOut K cad A S H Q E (m ds S)
/-- what stands around every call -/
structure Gd where
  P : Program
  w : World
  K : PySem.W.Frag
  mg : Str → Option Value
  base : Heap
  cad : Nat → Addr
def FnD (G : Gd) (k : Nat) (f : Addr) (n : Nat) (m : Fn) : Prop :=
  ∀ (A : Around) (outer : List Env) (s : Shared) (H : Hp) (us : List Value) (vs : List V) (Q : VK) (E : XK), Room k A → A.guards = some [] → Env0 G.P G.w G.K G.mg G.base A outer s H → Vals vs us → vs.length = n → spD G.K G.cad m vs H Q E →
    codeAny (model G.P G.w) A (.call (.ref f) ⟨us, []⟩) (CR (L2.CX G.P G.w) outer G.P G.w H s Q E) s
theorem FnD.mono {G : Gd} {j k : Nat} {f : Addr} {n : Nat} {m : Fn} (F : FnD G j f n m) (h : j ≤ k) : FnD G k f n m := fun A outer s H us vs Q E hr => F A outer s H us vs Q E (hr.mono h)

def coolA : List D → List D
  | [] => []
  | .loc n :: ds => .loc n :: coolA ds
  | d :: ds => cool d :: coolA ds
theorem coolA_len : ∀ ds : List D, (coolA ds).length = ds.length
  | [] => rfl
  | d :: ds => by cases d <;> simp [coolA, coolA_len ds]
theorem RpL.args {K : PySem.W.Frag} {Z : ZT} {A : Wy} {S : Store} {H : Hp} : ∀ {vs : List V} {ds : List D}, RpL K Z A S H vs ds → argsOk ds = true → RpL K Z0 A S H vs (coolA ds)
  | _, _, .nil, _ => .nil
  | _, d :: ds, .cons r t, h => by
    cases d with
    | err _ _ => cases h
    | loc n =>
      refine .cons ?_ (RpL.args t h)
      rcases r with r | r | ⟨_, _, _, z, _⟩
      · exact .inl r
      · cases r
      · cases z
    | _ => exact .cons (.inr (.inl (r.rp (fun n z => nomatch z) fun c fs z => nomatch z).cool)) (RpL.args t h)
/-- f(..) -/
def mCall (f : Fn) (n : Nat) (a : MA) : ME := fun ρ S => (a ρ S).bind fun ds S1 => if argsOk ds && decide (ds.length = n) then f (coolA ds) S1 else .bad

/-- the situation of a body: what a callee wants is there -/
structure Gs (G : Gd) (k : Nat) (s : Sit) : Prop where
  P : s.X.prog = G.P
  w : s.X.w = G.w
  K : s.X.K = G.K
  mg : s.X.mg = G.mg
  base : s.X.base = G.base
  cad : s.cad = G.cad
  room : Room k s.X.A
  guards : s.X.A.guards = some []
  calm : s.X.calm = true
  takes : Takes s.X s.W
  zn : ∀ c dd, ¬ s.Z .non c dd
theorem Gs.blk {G : Gd} {k : Nat} {s : Sit} (g : Gs G k s) (sh : Shared) (H : Hp) (scope : Scope) (cenv : Env) (fp : List Addr) : Gs G k (s.blk sh H scope cenv fp) :=
  ⟨g.P, g.w, g.K, g.mg, g.base, g.cad, g.room, g.guards, g.calm, takes0, g.zn⟩
theorem RpS.z0 {K : PySem.W.Frag} {Z : ZT} {A : Wy} {S : Store} {H : Hp} {v : V} {d : D} (r : RpS K Z0 A S H v d) : RpS K Z A S H v d := by
  rcases r with r | r | ⟨_, _, _, _, z, _⟩
  · exact .inl r
  · exact .inr (.inl r)
  · exact z.elim
section
variable {G : Gd} {s : Sit} {j k : Nat} {f : Addr} {n : Nat} {m : Fn} {x : Str} {e : Expr} {es : List Expr} {a : MA} {p pos : Pos}
theorem run_D {pins : List (Addr × Obj)} {σ : St} {H : Hp} {sh : Shared} {Q : VK} {us : List Value} {vs : List V} {E : XK} (g : Gs G k s) (F : FnD G j f n m) (hj : j ≤ k) (I : Inv s.X pins σ H sh) (r : Vals vs us) (hn : vs.length = n)
    (hE : ∀ c d H, E c d H → s.W c d σ H) (h : spD G.K G.cad m vs H Q E) : wpAny (model s.X.prog s.X.w) s.X.A (call (.ref f) us) (EP s.X pins σ Q) s.X.xe sh := by
  have e0 := I.env0
  have hF := F.mono hj s.X.A s.X.stack sh H us vs Q E g.room g.guards (by rw [← g.P, ← g.w, ← g.K, ← g.mg, ← g.base]; exact e0) r hn h
  rw [← g.P, ← g.w] at hF
  refine wpAny_call (codeAny_mono hF fun r s' hq => ?_)
  cases r with
  | error e => exact g.takes e s' (XE.of_call I hE hq)
  | ok fl =>
    cases fl with
    | ret u => exact I.after hq
    | next => exact False.elim hq
    | brk => exact False.elim hq
    | cont => exact False.elim hq
theorem call_red (g : Gs G k s) {σ : St} {H : Hp} {Q : VK} (q : tD s (mCall m n a) σ H Q) : tDa s a σ H fun vs H1 => vs.length = n ∧ spD G.K G.cad m vs H1 Q (fun c d H => s.W c d σ H) := by
  obtain ⟨ρ, S, A, c, q⟩ := q
  refine tDa_bind c q fun ds S1 vs H1 _ p1 c1 r1 q1 => ?_
  split at q1
  · rename_i ha
    simp only [Bool.and_eq_true, decide_eq_true_eq] at ha
    refine ⟨by rw [r1.length]; exact ha.2, S1, A, coolA ds, by rw [← g.K]; exact c1.cells, by rw [← g.K]; exact r1.args ha.1, ?_⟩
    cases e : m (coolA ds) S1 with
    | ok d S2 => rw [e] at q1; intro v H2 p2 r2 f2; rw [← g.K] at p2 r2 f2; exact q1 v H2 p2 r2.z0 f2
    | exc x fs S2 => rw [e] at q1; intro dd H2 p2 z; rw [← g.K] at p2 z; rw [← g.cad]; exact q1 dd H2 p2 z
    | bad => rw [e] at q1; exact q1
  · exact q1.elim
/-- f(e, ..), f a def -/
theorem se_call (g : Gs G k s) (F : FnD G j f n m) (hj : j ≤ k) (hg : Gl s.X x) (hm : G.mg x = some (.ref f)) (hk : PySem.W.keepIn G.K (.ref f) = true) (ha : SA s (e :: es) a)
    (hdb : (x == ("__debug__" : Str)) = false := by decide) (he : starEach (e :: es) s.X.env = (false, eval e s.X.env) :: starEach es s.X.env := by rfl) (hpl : (backTo pos (starEach es s.X.env)).any (·.1) = false := by rfl) :
    SE s (.Call (.Name x p) (e :: es) [] pos) (mCall m n a) := by
  refine ⟨fun pins sh σ H Q I q => ?_⟩
  refine wpAny_Call_Name_kw (ld_glob I hg (by rw [g.mg]; exact hm) ?_ hdb)
  refine PySem.W.callWith_K (h₀ := s.X.base) I.ok.mod.kin (by rw [g.K]; exact hk) (thn (ha.run pos pins sh σ H _ I (call_red g q)) fun us s1 ⟨vs, H1, I1, r, q1⟩ => ⟨I1.kIn, ?_⟩) he hpl
  exact run_D g F hj I1 r q1.1 (fun _ _ _ h => h) q1.2
end

/-! ### a def by its body -/
def retD (b : Nat) (d : D) (S : Store) : Option D := match d with
  | .loc n => if n < b then some (.loc n) else match S[n]? with
    | some (some (.lst _ xs)) => some (.lst true xs)
    | _ => none
  | .err _ _ => none
  | d => some d
def mDef (N : Nat) (b : Nat → MS) : Fn := fun ds S => match b S.length (ds.map some ++ List.replicate (N - ds.length) none) (S ++ List.replicate N none) with
  | .rt d S' => match retD S.length d S' with
    | some d' => .ok d' (S'.take S.length)
    | none => .bad
  | .nx _ S' => .ok .non (S'.take S.length)
  | .exc c fs _ S' => .exc c fs (S'.take S.length)
  | _ => .bad
section
variable {K : PySem.W.Frag} {A A' : Wy} {S S' : Store} {H H' : Hp} {N b : Nat}
theorem nones_get {S : Store} {N n : Nat} {d : D} (h : (S ++ List.replicate N none)[n]? = some (some d)) : S[n]? = some (some d) := by
  by_cases hn : n < S.length
  · rw [List.getElem?_append_left hn] at h; exact h
  · rw [List.getElem?_append_right (by omega), List.getElem?_replicate] at h
    split at h <;> cases h
theorem nones_own : OwC A (S ++ List.replicate N none) = OwC A S := by
  funext a
  refine propext ⟨?_, ?_⟩
  · rintro ⟨n, d, h, e⟩
    exact ⟨n, d, nones_get h, e⟩
  · rintro ⟨n, d, h, e⟩
    refine ⟨n, d, ?_, e⟩
    rw [List.getElem?_append_left]
    · exact h
    · rcases Nat.lt_or_ge n S.length with z | z
      · exact z
      · rw [List.getElem?_eq_none z] at h; cases h
theorem nones_own2 : Own A (S ++ List.replicate N none) = Own A S := by
  unfold Own
  rw [nones_own]
theorem Cells.nones (c : Cells K A S H) : Cells K A (S ++ List.replicate N none) H :=
  ⟨fun n d h => by rw [nones_own2]; exact c.at_ n d (nones_get h), fun n m d e h h' z => c.inj n m d e (nones_get h) (nones_get h') z, c.phs, fun a z => by rw [nones_own]; exact c.apart a z⟩
theorem RpS.nones {Z : ZT} {v : V} {d : D} (r : RpS K Z A S H v d) : RpS K Z A (S ++ List.replicate N none) H v d := by
  have o : Own A (S ++ List.replicate N none) = Own A S := nones_own2
  rcases r with ⟨n, e, h1, h2, h3⟩ | r | ⟨c, fs, dd, h1, h2, h3⟩
  · refine .inl ⟨n, e, h1, h2, ?_⟩
    rw [List.getElem?_append_left]
    · exact h3
    · rcases Nat.lt_or_ge n S.length with z | z
      · exact z
      · rw [List.getElem?_eq_none z] at h3; cases h3
  · exact .inr (.inl (by rw [o]; exact r))
  · exact .inr (.inr ⟨c, fs, dd, h1, h2, by rw [o]; exact h3⟩)
/-- the cells of the caller alone -/
theorem take_get {n : Nat} {d : D} (h : (S'.take b)[n]? = some (some d)) : n < b ∧ S'[n]? = some (some d) := by
  rw [List.getElem?_take] at h
  split at h
  · exact ⟨‹_›, h⟩
  · cases h
theorem take_ownC (low : ∀ n, n < b → A'.loc n = A.loc n) {x : Addr} (z : OwC A (S'.take b) x) : OwC A' S' x := by
  obtain ⟨n, d, h, rfl⟩ := z
  obtain ⟨h1, h2⟩ := take_get h
  exact ⟨n, d, h2, low n h1⟩
theorem take_own (low : ∀ n, n < b → A'.loc n = A.loc n) (ph : A'.ph = A.ph) {x : Addr} (z : Own A (S'.take b) x) : Own A' S' x := by
  rcases z with z | z
  · exact .inl (take_ownC low z)
  · exact .inr (by rw [ph]; exact z)
theorem Cells.take (low : ∀ n, n < b → A'.loc n = A.loc n) (ph : A'.ph = A.ph) (c : Cells K A' S' H') : Cells K A (S'.take b) H' := by
  refine ⟨fun n d h => ?_, fun n m d e h h' z => ?_, fun a z => c.phs a (by rw [ph]; exact z), fun a z w => c.apart a (by rw [ph]; exact z) (take_ownC low w)⟩
  · obtain ⟨h1, h2⟩ := take_get h
    rw [← low n h1]
    exact (c.at_ n d h2).own c.owns fun x z => take_own low ph z
  · obtain ⟨h1, h2⟩ := take_get h
    obtain ⟨h3, h4⟩ := take_get h'
    exact c.inj n m d e h2 h4 (by rw [low n h1, low m h3]; exact z)
/-- behind a body: as behind a call -/
theorem Pss.done (p : Pss S.length A (S ++ List.replicate N none) H A' S' H') (c : Cells K A' S' H') : Pst K A S H (S'.take S.length) H' where
  ext := by have := p.ext; rw [nones_own] at this; exact this
  lives := fun n => by
    by_cases hn : n < S.length
    · rw [List.getElem?_take, if_pos hn, p.lives n hn, List.getElem?_append_left hn]
    · rw [List.getElem?_take, if_neg hn, List.getElem?_eq_none (by omega)]
  len := by rw [List.length_take, p.len, List.length_append]; omega
  cells := c.take p.low p.ph
end
section
variable {G : Gd} {k : Nat} {f : Addr} {x qual : Str} {st : Stmt} {fd : FuncData} {N ps : List Str} {b : Nat → MS}
/-- the situation of a def's body -/
def sitOf (G : Gd) (N : List Str) (qual : Str) (scope : Scope) (f : Addr) (cd : Value) (A : Around) (outer : List Env) (s : Shared) (H : Hp) (E : XK) (base : Nat) : Sit where
  X := cxOf (L2.CX G.P G.w) G.P G.w G.K G.mg G.base N qual scope f cd A outer s H E
  base := base
  W := fun cls d _ H => E cls d H
  Z := Z0
  cad := G.cad
theorem fnD_of (F : FunD G.K x qual (defArgs st) (defBody st) (defScope st) [] [] f fd) (S : FnScope N ps (defScope st)) (hb : Binds G.K fd ps [])
    (hbody : ∀ (cdv : Value) (A : Around) (outer : List Env) (s : Shared) (H : Hp) (E : XK) (base : Nat), Gs G k (sitOf G N qual (defScope st) f cdv A outer s H E base) →
      SSs (sitOf G N qual (defScope st) f cdv A outer s H E base) (defBody st) (b base)) : FnD G (k + 1) f ps.length (mDef N.length b) := by
  obtain ⟨oc, od, dV, kV, doc, pm, an, cdv, ct, osl, rfl, lk, hcd, _, _⟩ := F.ex
  intro A outer s H us vs Q E hr hgd e0 r hn hsp
  have hl : us.length = ps.length := by rw [← r.length]; exact hn
  have KX : G.K.In s.heap := e0.mod.kin.keeps fun b o e => (e0.bs b o e).1
  have lim : s.heap.NoLimit := e0.mod.nolimit.keeps fun b o e => (e0.bs b o e).1
  have hkind : ∀ y ∈ ps.zip us, (defScope st).names.lookup y.1 = some .local ∨ ((defScope st).names.lookup y.1 = some .cell ∧ ((cellsFrom (s.heap.objs.size + 1) (defScope st).names []).lookup y.1).isSome = true) := fun ⟨n, v⟩ hy => by
    rcases S.par n (List.of_mem_zip hy).1 with q | q
    · exact .inl q
    · exact .inr ⟨q, PySem.W.cellsFrom_some _ _ _ (.inl q)⟩
  have hbind : BindsTo s (PySem.W.fnOf x qual (defArgs st) (defBody st) (defScope st) dV kV doc pm an cdv ct) ⟨us, []⟩ (ps.zip us) := by
    have := hb s us KX (by rw [List.append_nil]; exact hl)
    rw [List.append_nil] at this
    exact this
  refine codeAny_call_function hr.depth (KX _ _ lk) rfl S.co S.gen rfl (PySem.W.codeRec_of KX hcd) (hbind _ _ _ _ ?_)
  refine wpAny_newFunctionEnv_cells S.kind hkind fun env he s1 x => ?_
  subst he
  refine ⟨lim.keeps x.toInCall.keep, codeAny_func ?_⟩
  obtain ⟨S0, A0, ds, c0, r0, q0⟩ := hsp
  have I : Inv (cxOf (L2.CX G.P G.w) G.P G.w G.K G.mg G.base N qual (defScope st) f cdv A outer s H E) [] (L2.start N vs) H s1 := inv_start S hr.hd e0 hn r x
  have gs : Gs G k (sitOf G N qual (defScope st) f cdv A outer s H E S0.length) :=
    ⟨rfl, rfl, rfl, rfl, rfl, rfl, hr.deeper _, hgd, rfl, takes_of rfl rfl rfl rfl, fun _ _ z => z⟩
  have ht := hbody cdv A outer s H E S0.length gs
  have hpl : ps.length ≤ N.length := by have := congrArg List.length S.pre; rw [List.length_take] at this; omega
  have dl : ds.length = ps.length := by rw [← r0.length]; exact hn
  -- the slots at the entry
  have cn : Cn (sitOf G N qual (defScope st) f cdv A outer s H E S0.length) (ds.map some ++ List.replicate (N.length - ds.length) none) (S0 ++ List.replicate N.length none) A0 (L2.start N vs) H := by
    have rl : ∀ {vs : List V} {ds : List D}, RpL G.K Z0 A0 S0 H vs ds → ∀ (i : Nat) (d : D), ds[i]? = some d → ∃ v, vs[i]? = some v ∧ RpS G.K Z0 A0 S0 H v d := by
      intro vs ds r
      induction r with
      | nil => intro i d h; simp at h
      | cons r t ih =>
        intro i d h
        cases i with
        | zero => simp at h; subst h; exact ⟨_, rfl, r⟩
        | succ i => obtain ⟨v, h1, h2⟩ := ih i d (by simpa using h); exact ⟨v, by simpa using h1, h2⟩
    have get : ∀ (i : Nat) (d : D), (ds.map some ++ List.replicate (N.length - ds.length) none)[i]? = some (some d) → i < ds.length ∧ ds[i]? = some d := fun i d h => by
      by_cases hi : i < ds.length
      · rw [List.getElem?_append_left (by simpa using hi), List.getElem?_map] at h
        cases e : ds[i]? with
        | none => rw [e] at h; cases h
        | some y => rw [e] at h; cases h; exact ⟨hi, rfl⟩
      · rw [List.getElem?_append_right (by simpa using hi), List.getElem?_replicate] at h
        split at h <;> cases h
    refine ⟨fun i d h => ?_, c0.nones, fun i n h => ?_, ?_, ?_⟩
    · obtain ⟨hi, hd⟩ := get i d h
      obtain ⟨v, h1, h2⟩ := rl r0 i d hd
      refine ⟨v, ?_, h2.nones⟩
      unfold L2.start
      rw [List.getElem?_append_left (by simp; omega), List.getElem?_map, h1]
      rfl
    · obtain ⟨hi, hd⟩ := get i _ h
      obtain ⟨v, h1, h2⟩ := rl r0 i _ hd
      rcases h2 with ⟨m, e, h3, h4, h5⟩ | h2 | ⟨_, _, _, _, z, _⟩
      · cases h3
        left
        rcases Nat.lt_or_ge n S0.length with z | z
        · exact z
        · rw [List.getElem?_eq_none z] at h5; cases h5
      · cases h2
      · exact z.elim
    · unfold L2.start
      simp [r0.length]
    · show S0.length + _ ≤ _
      simp only [List.length_append, List.length_map, List.length_replicate]
      omega
  refine wpAny_mono (ht.run [] s1 (L2.start N vs) H { nx := fun _ H' => Q .non H', rt := Q } I ⟨_, _, A0, cn, ?_⟩) (fun fl s' hs => ?_) fun e s' hs => hs
  · -- what the body's end says
    unfold mDef at q0
    have o0 : OwC A0 (S0 ++ List.replicate N.length none) = OwC A0 S0 := nones_own
    cases eb : b S0.length (ds.map some ++ List.replicate (N.length - ds.length) none) (S0 ++ List.replicate N.length none) with
    | bk _ _ => rw [eb] at q0; exact q0.elim
    | ct _ _ => rw [eb] at q0; exact q0.elim
    | bad => rw [eb] at q0; exact q0.elim
    | nx ρ1 S1 =>
      rw [eb] at q0
      intro σ1 H1 A1 p1 c1
      exact q0 .non H1 (p1.done c1.cells) (.inr (.inl .non)) (.old rfl)
    | exc c fs ρ1 S1 =>
      rw [eb] at q0
      intro dd σ1 H1 A1 p1 c1 ex
      refine q0 dd H1 (p1.done c1.cells) (ex.ext c1.cells.owns (.refl _ _) fun x z => .inl (take_own p1.low p1.ph z))
    | rt d S1 =>
      rw [eb] at q0
      dsimp only at q0
      intro v H1 A1 p1 c1 r1 f1
      have done : Pst G.K A0 S0 H (S1.take S0.length) H1 := p1.done c1
      have shr : ∀ x, Own A0 (S1.take S0.length) x → Own A1 S1 x := fun x z => take_own p1.low p1.ph z
      have simple : ∀ d', plain d = true → retD S0.length d S1 = some d' → d' = d ∧ RpS G.K Z0 A0 (S1.take S0.length) H1 v d ∧ Fresh G.K A0 (S1.take S0.length) H H1 v d := fun d' hp hd => by
        have : retD S0.length d S1 = some d := by cases d <;> first | rfl | (cases hp; done)
        rw [this] at hd
        cases hd
        refine ⟨rfl, .inr (.inl ((r1.plain hp).own c1.owns shr)), fun z => ?_⟩
        obtain ⟨a, e1, e2, e3, e4⟩ := f1 z
        have ow2 : Owns H1 (fun x => Own A1 S1 x ∨ x = a) := fun x w => by
          rcases w with w | w
          · exact c1.owns x w
          · subst w; exact e3.mu
        refine ⟨a, e1, e2, e3.own ow2 fun x w => w.imp (shr x) id, fun n e h => ?_⟩
        obtain ⟨h1, h2⟩ := take_get h
        rw [← p1.low n h1]
        exact (e4 n e h2).own ow2 fun x w => w.imp (shr x) id
      cases hd : retD S0.length d S1 with
      | none => rw [hd] at q0; exact q0.elim
      | some d' =>
        rw [hd] at q0
        by_cases hp : plain d = true
        · obtain ⟨rfl, h2, h3⟩ := simple d' hp hd
          exact q0 v H1 done h2 h3
        · cases d with
          | err _ _ => cases hd
          | loc n =>
            rcases r1 with ⟨m, e, h3, rfl, h5⟩ | r1 | ⟨_, _, _, z, _⟩
            · cases h3
              unfold retD at hd
              dsimp only at hd
              split at hd
              · rename_i hn
                cases hd
                refine q0 _ H1 done (.inl ⟨n, e, rfl, by rw [p1.low n hn], ?_⟩) (.old rfl)
                rw [List.getElem?_take, if_pos hn]; exact h5
              · rename_i hn
                split at hd
                · rename_i fl xs hx
                  cases hd
                  have ce := c1.at_ n _ hx
                  have notown : ¬ Own A0 (S1.take S0.length) (A1.loc n) := by
                    rintro (⟨m, e', h, z⟩ | z)
                    · obtain ⟨h1, h2⟩ := take_get h
                      have := c1.inj m n e' _ h2 hx (by rw [p1.low m h1]; exact z)
                      omega
                    · exact c1.apart _ (by rw [p1.ph]; exact z) ⟨n, _, hx, rfl⟩
                  have hfree : H (A1.loc n) = none := by
                    rcases p1.grow (A1.loc n) ⟨n, _, hx, rfl⟩ with z | z
                    · exfalso
                      rw [o0] at z
                      obtain ⟨m, e', h, z⟩ := z
                      have hm : m < S0.length := by
                        rcases Nat.lt_or_ge m S0.length with y | y
                        · exact y
                        · rw [List.getElem?_eq_none y] at h; cases h
                      have l := p1.lives m hm
                      rw [List.getElem?_append_left hm, h] at l
                      obtain ⟨d2, hd2⟩ := live_iff.mp l
                      have := c1.inj m n d2 _ hd2 hx (by rw [p1.low m hm]; exact z)
                      omega
                    · exact z
                  cases ce with
                  | lst h4 h6 =>
                    refine q0 _ H1 done (.inr (.inl (.lst notown h4 (h6.ext c1.owns (.refl _ _) fun x z => .inl (shr x z))))) fun _ => ⟨A1.loc n, rfl, hfree, ?_, fun m e' h => ?_⟩
                    · refine .lst h4 (h6.ext c1.owns (.refl _ _) fun x z => .inl ?_)
                      rcases z with z | z
                      · exact shr x z
                      · rw [z]; exact .inl ⟨n, _, hx, rfl⟩
                    · obtain ⟨h1, h2⟩ := take_get h
                      rw [← p1.low m h1]
                      refine (c1.at_ m e' h2).own c1.owns fun x z => ?_
                      rcases z with z | z
                      · exact shr x z
                      · rw [z]; exact .inl ⟨n, _, hx, rfl⟩
                · cases hd
            · cases r1
            · cases z
          | _ => exact absurd rfl hp
  · have fin : ∀ {σ' : St} {H' : Hp} {v : V} {u : Value}, Inv (cxOf (L2.CX G.P G.w) G.P G.w G.K G.mg G.base N qual (defScope st) f cdv A outer s H E) [] σ' H' s' → RelV v u → Q v H' → CE outer G.P G.w H s Q u s' :=
      fun {σ' H' v u} J rv q => ⟨v, H', J.os, J.bare, J.base, J.hok, rv, q⟩
    cases fl with
    | ret u =>
      obtain ⟨v, σ', H', J, rv, q⟩ := hs
      exact fin J rv q
    | next =>
      obtain ⟨σ', H', J, q⟩ := hs
      exact fin (v := V.non) (u := Value.none) J rfl q
    | brk =>
      obtain ⟨_, _, _, q⟩ := hs
      exact False.elim q
    | cont =>
      obtain ⟨_, _, _, q⟩ := hs
      exact False.elim q
end
end Dv

namespace Dv
open PySem PySem.Spec PyProof.Rows L2
set_option autoImplicit false

/-! ### built-in calls -/
def cLen (S : Store) (ds : List D) : Option D := match ds with
  | [d] => match vw S d with
    | .str x => if x.length ≤ LINE then some (.int x.length) else none
    | .tup xs => some (.int xs.length)
    | .lst _ xs => some (.int xs.length)
    | .rol xs => some (.int xs.length)
    | _ => none
  | _ => none
def cAbs (S : Store) (ds : List D) : Option D := match ds with
  | [.int i] => some (.int (if i < 0 then -i else i))
  | _ => none
def cMax2 (S : Store) (ds : List D) : Option D := match ds with
  | [.int i, .int j] => some (.int (if j > i then j else i))
  | _ => none
def cMin2 (S : Store) (ds : List D) : Option D := match ds with
  | [.int i, .int j] => some (.int (if j < i then j else i))
  | _ => none
def cInt (S : Store) (ds : List D) : Option D := match ds with
  | [.int i] => some (.int i)
  | [.bl b] => some (.int (if b then 1 else 0))
  | _ => none
def cBool (S : Store) (ds : List D) : Option D := match ds with
  | [.int i] => some (.bl (i != 0))
  | [.bl b] => some (.bl b)
  | _ => none
def intsOf : List D → Option (List Int)
  | [] => some []
  | .int i :: ds => (intsOf ds).map (i :: ·)
  | _ => none
def blsOf : List D → Option (List Bool)
  | [] => some []
  | .bl i :: ds => (blsOf ds).map (i :: ·)
  | _ => none
theorem intsOf_eq : ∀ {ds : List D} {ns : List Int}, intsOf ds = some ns → ds = ns.map D.int
  | [], _, h => by cases h; rfl
  | .int i :: ds, _, h => by
    simp only [intsOf, Option.map_eq_some_iff] at h
    obtain ⟨ns, h1, rfl⟩ := h
    rw [intsOf_eq h1]; rfl
theorem blsOf_eq : ∀ {ds : List D} {ns : List Bool}, blsOf ds = some ns → ds = ns.map D.bl
  | [], _, h => by cases h; rfl
  | .bl i :: ds, _, h => by
    simp only [blsOf, Option.map_eq_some_iff] at h
    obtain ⟨ns, h1, rfl⟩ := h
    rw [blsOf_eq h1]; rfl
/-- the items of one list -/
def listArg (S : Store) (ds : List D) : Option (List D) := match ds with
  | [d] => lstOf (vw S d)
  | _ => none
def cSum (S : Store) (ds : List D) : Option D := ((listArg S ds).bind intsOf).map fun ns => .int ns.sum
def cAll (S : Store) (ds : List D) : Option D := ((listArg S ds).bind blsOf).map fun ns => .bl (ns.all id)
def cAny (S : Store) (ds : List D) : Option D := ((listArg S ds).bind blsOf).map fun ns => .bl (ns.any id)
def cTuple (S : Store) (ds : List D) : Option D := match ds with
  | [d] => match vw S d with
    | .tup xs => some (.tup xs)
    | .lst _ xs => some (.tup xs)
    | .rol xs => some (.tup xs)
    | _ => none
  | _ => none
def cList (S : Store) (ds : List D) : Option D := match ds with
  | [d] => match vw S d with
    | .tup xs => some (.lst true xs)
    | .lst _ xs => some (.lst true xs)
    | .rol xs => some (.lst true xs)
    | _ => none
  | _ => none
section
variable {s : Sit}
theorem int_of {A : Wy} {S : Store} {H : Hp} {v : V} {i : Int} (r : RpS s.X.K s.Z A S H v (.int i)) : v = .int i := by
  rcases r with ⟨_, _, z, _⟩ | r | ⟨_, _, _, z, _⟩
  · cases z
  · cases r; rfl
  · cases z
theorem sem_len : CallSem s cLen (fun xs H Q => ∃ x n, xs = [x] ∧ LenV s.X.K x H n ∧ Q (.int n) H) := by
  intro A S H vs ds x Q c r hf q
  unfold cLen at hf
  split at hf
  · rename_i d
    obtain ⟨v, rfl, rr⟩ := r.one
    split at hf
    · rename_i y e
      split at hf
      · rename_i hl
        cases hf
        have := (rr.as c e).str
        subst this
        exact ⟨_, y.length, rfl, ⟨by rw [line_eq]; exact hl, rfl⟩, old_of (.int _) rfl q⟩
      · cases hf
    · rename_i ys e
      cases hf
      obtain ⟨a, xs, rfl, h1, h2⟩ := (rr.as c e).tup
      exact ⟨_, ys.length, rfl, .inr ⟨xs, h1, h2.length.symm⟩, old_of (.int _) rfl q⟩
    · rename_i f ys e
      cases hf
      obtain ⟨a, xs, rfl, h1, h2⟩ := (rr.as c e).lst
      exact ⟨_, ys.length, rfl, .inl ⟨xs, .of h1, h2.length.symm⟩, old_of (.int _) rfl q⟩
    · rename_i ys e
      cases hf
      obtain ⟨a, xs, rfl, h1, h2⟩ := (rr.as c e).list rfl
      exact ⟨_, ys.length, rfl, .inl ⟨xs, h1, h2.length.symm⟩, old_of (.int _) rfl q⟩
    · cases hf
  · cases hf
theorem sem_abs : CallSem s cAbs (fun xs H Q => ∃ i, xs = [.int i] ∧ Q (.int (if i < 0 then -i else i)) H) := by
  intro A S H vs ds x Q c r hf q
  unfold cAbs at hf
  split at hf
  · cases hf; exact ⟨_, r.int1, old_of (.int _) rfl q⟩
  · cases hf
theorem sem_max2 : CallSem s cMax2 (fun xs H Q => ∃ i j, xs = [.int i, .int j] ∧ Q (.int (if j > i then j else i)) H) := by
  intro A S H vs ds x Q c r hf q
  unfold cMax2 at hf
  split at hf
  · cases hf; exact ⟨_, _, r.int2, old_of (.int _) rfl q⟩
  · cases hf
theorem sem_min2 : CallSem s cMin2 (fun xs H Q => ∃ i j, xs = [.int i, .int j] ∧ Q (.int (if j < i then j else i)) H) := by
  intro A S H vs ds x Q c r hf q
  unfold cMin2 at hf
  split at hf
  · cases hf; exact ⟨_, _, r.int2, old_of (.int _) rfl q⟩
  · cases hf
theorem RpL.bl1 {K : PySem.W.Frag} {Z : ZT} {A : Wy} {S : Store} {H : Hp} {vs : List V} {j : Bool} (r : RpL K Z A S H vs [.bl j]) : vs = [.bl j] := by
  cases r with
  | cons r t =>
    cases t
    rcases r with ⟨_, _, z, _⟩ | r | ⟨_, _, _, z, _⟩
    · cases z
    · cases r; rfl
    · cases z
theorem sem_int : CallSem s cInt (fun xs H Q => (∃ i, xs = [.int i] ∧ Q (.int i) H) ∨ ∃ k, xs = [.bl k] ∧ Q (.int (if k then 1 else 0)) H) := by
  intro A S H vs ds x Q c r hf q
  unfold cInt at hf
  split at hf
  · cases hf; exact .inl ⟨_, r.int1, old_of (.int _) rfl q⟩
  · cases hf; exact .inr ⟨_, r.bl1, old_of (.int _) rfl q⟩
  · cases hf
theorem sem_bool : CallSem s cBool (fun xs H Q => (∃ i, xs = [.int i] ∧ Q (.bl (i != 0)) H) ∨ ∃ k, xs = [.bl k] ∧ Q (.bl k) H) := by
  intro A S H vs ds x Q c r hf q
  unfold cBool at hf
  split at hf
  · cases hf; exact .inl ⟨_, r.int1, old_of (.bl _) rfl q⟩
  · cases hf; exact .inr ⟨_, r.bl1, old_of (.bl _) rfl q⟩
  · cases hf
theorem listArg_ok {A : Wy} {S : Store} {H : Hp} {vs : List V} {ds xs : List D} (c : Cells s.X.K A S H) (r : RpL s.X.K s.Z A S H vs ds) (h : listArg S ds = some xs) : ∃ a ys, vs = [.ref a] ∧ SqL s.X.K H a ys ∧ RpAll s.X.K H (Own A S) ys xs := by
  unfold listArg at h
  split at h
  · rename_i d
    obtain ⟨v, rfl, rr⟩ := r.one
    have n : ∀ k fs, vw S d ≠ .err k fs := fun k fs z => by rw [z] at h; cases h
    obtain ⟨a, ys, rfl, h1, h2⟩ := (rr.seen c n).list h
    exact ⟨a, ys, rfl, h1, h2⟩
  · cases h
theorem sem_sum : CallSem s cSum (rSum s.X.K) := by
  intro A S H vs ds x Q c r hf q
  simp only [cSum, Option.map_eq_some_iff, Option.bind_eq_some_iff] at hf
  obtain ⟨ns, ⟨xs, h1, h2⟩, rfl⟩ := hf
  obtain ⟨a, ys, rfl, h3, h4⟩ := listArg_ok c r h1
  rw [intsOf_eq h2] at h4
  rw [h4.ints] at h3
  exact ⟨a, ns, rfl, h3, old_of (.int _) rfl q⟩
theorem sem_all : CallSem s cAll (rAll s.X.K) := by
  intro A S H vs ds x Q c r hf q
  simp only [cAll, Option.map_eq_some_iff, Option.bind_eq_some_iff] at hf
  obtain ⟨ns, ⟨xs, h1, h2⟩, rfl⟩ := hf
  obtain ⟨a, ys, rfl, h3, h4⟩ := listArg_ok c r h1
  rw [blsOf_eq h2] at h4
  rw [h4.bls] at h3
  exact ⟨a, ns, rfl, h3, old_of (.bl _) rfl q⟩
theorem sem_any : CallSem s cAny (rAny s.X.K) := by
  intro A S H vs ds x Q c r hf q
  simp only [cAny, Option.map_eq_some_iff, Option.bind_eq_some_iff] at hf
  obtain ⟨ns, ⟨xs, h1, h2⟩, rfl⟩ := hf
  obtain ⟨a, ys, rfl, h3, h4⟩ := listArg_ok c r h1
  rw [blsOf_eq h2] at h4
  rw [h4.bls] at h3
  exact ⟨a, ns, rfl, h3, old_of (.bl _) rfl q⟩
theorem sem_tuple : CallSem s cTuple (fun xs H Q => ∃ p ys, xs = [.ref p] ∧ ((SqL s.X.K H p ys ∧ ∀ l, H l = none → Q (.ref l) (upd H l (.tup ys))) ∨ (SqT s.X.K H p ys ∧ Q (.ref p) H))) := by
  intro A S H vs ds x Q c r hf q
  unfold cTuple at hf
  split at hf
  · rename_i d
    obtain ⟨v, rfl, rr⟩ := r.one
    split at hf
    · rename_i ys e
      cases hf
      obtain ⟨a, xs, rfl, h1, h2⟩ := (rr.as c e).tup
      exact ⟨a, xs, rfl, .inr ⟨h1, old_of (.tup h1 h2) rfl q⟩⟩
    · rename_i f ys e
      cases hf
      obtain ⟨a, xs, rfl, h1, h2⟩ := (rr.as c e).lst
      exact ⟨a, xs, rfl, .inl ⟨.of h1, new_tup c h2 q⟩⟩
    · rename_i ys e
      cases hf
      obtain ⟨a, xs, rfl, h1, h2⟩ := (rr.as c e).list rfl
      exact ⟨a, xs, rfl, .inl ⟨h1, new_tup c h2 q⟩⟩
    · cases hf
  · cases hf
theorem sem_list : CallSem s cList (fun xs H Q => ∃ p ys, xs = [.ref p] ∧ (SqL s.X.K H p ys ∨ SqT s.X.K H p ys) ∧ ∀ l, H l = none → Q (.ref l) (upd H l (.lst ys))) := by
  intro A S H vs ds x Q c r hf q
  unfold cList at hf
  split at hf
  · rename_i d
    obtain ⟨v, rfl, rr⟩ := r.one
    split at hf
    · rename_i ys e
      cases hf
      obtain ⟨a, xs, rfl, h1, h2⟩ := (rr.as c e).tup
      exact ⟨a, xs, rfl, .inr h1, new_lst c h2 q⟩
    · rename_i f ys e
      cases hf
      obtain ⟨a, xs, rfl, h1, h2⟩ := (rr.as c e).lst
      exact ⟨a, xs, rfl, .inl (.of h1), new_lst c h2 q⟩
    · rename_i ys e
      cases hf
      obtain ⟨a, xs, rfl, h1, h2⟩ := (rr.as c e).list rfl
      exact ⟨a, xs, rfl, .inl h1, new_lst c h2 q⟩
    · cases hf
  · cases hf
/-! ### items, slices -/
def dIx (S : Store) (d e : D) : Option D := match vw S d, vw S e with
  | .tup xs, .int i => atI xs i
  | .lst _ xs, .int i => (atI xs i).map cool
  | .rol xs, .int i => atI xs i
  | .str x, .int i => if x.length ≤ LINE then (atI x.cps.toList i).map fun c => .str ⟨#[c]⟩ else none
  | _, _ => none
theorem atI_rp {K : PySem.W.Frag} {H : Hp} {O : Ow} {xs : List V} {ds : List D} {i : Int} {d : D} (r : RpAll K H O xs ds) (h : atI ds i = some d) : ∃ v, atI xs i = some v ∧ Rp K H O v d := by
  unfold atI at h ⊢
  rw [r.length]
  cases e : ixN ds.length i with
  | none => rw [e] at h; cases h
  | some j =>
    rw [e] at h
    exact r.get h
/-- items of what stands are no more fresh -/
def dIx' (S : Store) (d e : D) : Option D := (dIx S d e).map cool
theorem isNew_cool (d : D) : isNew (cool d) = false := by cases d <;> rfl
theorem sem_ix : OpSem s dIx' (rIx s.X.K) := by
  intro A S H v w d e x Q c rd re hf q
  simp only [dIx', Option.map_eq_some_iff] at hf
  obtain ⟨y, hf, rfl⟩ := hf
  unfold dIx at hf
  split at hf
  · rename_i ys i h1 h2
    obtain ⟨a, xs, rfl, h3, h4⟩ := (rd.as c h1).tup
    have e2 := (re.as c h2).int
    subst e2
    obtain ⟨u, h5, h6⟩ := atI_rp h4 hf
    exact .inr (.inl ⟨a, xs, i, u, rfl, rfl, h3, h5, old_of h6.cool (isNew_cool _) q⟩)
  · rename_i f ys i h1 h2
    simp only [Option.map_eq_some_iff] at hf
    obtain ⟨y', hf, rfl⟩ := hf
    obtain ⟨a, xs, rfl, h3, h4⟩ := (rd.as c h1).lst
    have e2 := (re.as c h2).int
    subst e2
    obtain ⟨u, h5, h6⟩ := atI_rp h4 hf
    exact .inl ⟨a, xs, i, u, rfl, rfl, .of h3, h5, old_of h6.cool.cool (isNew_cool _) q⟩
  · rename_i ys i h1 h2
    obtain ⟨a, xs, rfl, h3, h4⟩ := (rd.as c h1).list rfl
    have e2 := (re.as c h2).int
    subst e2
    obtain ⟨u, h5, h6⟩ := atI_rp h4 hf
    exact .inl ⟨a, xs, i, u, rfl, rfl, h3, h5, old_of h6.cool (isNew_cool _) q⟩
  · rename_i x i h1 h2
    split at hf
    · rename_i hl
      simp only [Option.map_eq_some_iff] at hf
      obtain ⟨y', hf, rfl⟩ := hf
      have e1 := (rd.as c h1).str
      have e2 := (re.as c h2).int
      subst e1 e2
      exact .inr (.inr ⟨x, i, y', rfl, rfl, by rw [line_eq]; exact hl, hf, old_of (.str _) rfl q⟩)
    · cases hf
  · cases hf
end
/-- an optional part of a slice -/
abbrev MO := Rho → Store → Res (Option Int)
def OOut (s : Sit) (A : Wy) (S : Store) (H : Hp) (σ : St) (Q : Option Int → Hp → Prop) : Res (Option Int) → Prop
  | .ok d S' => ∀ H', Pst s.X.K A S H S' H' → Q d H'
  | .exc c fs S' => ∀ dd H', Pst s.X.K A S H S' H' → ExAt s.X.K H' (Own A S') c dd fs → s.W (.ref (s.cad c)) dd σ H'
  | .bad => False
def oNone : MO := fun _ S => .ok none S
def oSome (m : ME) : MO := fun ρ S => (m ρ S).bind fun d S1 => match d with
  | .int i => .ok (some i) S1
  | _ => .bad
/-- what a slice gives -/
def cutD (xs : List D) (lo hi : Option Int) : List D := (xs.drop (HT.sIx xs.length 0 lo)).take (HT.sIx xs.length xs.length hi - HT.sIx xs.length 0 lo)
def dCut (S : Store) (d : D) (lo hi : Option Int) : Option D := match vw S d with
  | .tup xs => some (.tup (cutD xs lo hi))
  | .lst _ xs => some (.lst true (cutD xs lo hi))
  | .rol xs => some (.lst true (cutD xs lo hi))
  | _ => none
def mCut (m : ME) (l h : MO) : ME := fun ρ S => (m ρ S).bind fun d S1 => (l ρ S1).bind fun lo S2 => (h ρ S2).bind fun hi S3 => opt (dCut S3 d lo hi) S3
section
variable {s : Sit} {ρ : Rho} {S S1 : Store} {A : Wy} {σ : St} {H H1 : Hp}
def tDo (s : Sit) (m : MO) (σ : St) (H : Hp) (Q : Option Int → Hp → Prop) : Prop := ∃ ρ S A, Cn s ρ S A σ H ∧ OOut s A S H σ Q (m ρ S)
def SO (s : Sit) (e : Option Expr) (m : MO) : Prop := PO s.X e (tDo s m)
theorem PO.weak {X : Cx} {e : Option Expr} {t t' : TO} (h : PO X e t) (w : ∀ σ H Q, t' σ H Q → t σ H Q) : PO X e t' := ⟨fun pins s σ H Q I q => h.run pins s σ H Q I (w _ _ _ q)⟩
theorem so_none : SO s none oNone := PO.weak po_none fun σ H Q q => by
  obtain ⟨ρ, S, A, c, q⟩ := q
  exact q H (.refl c.cells)
theorem so_some {e : Expr} {m : ME} (he : SE s e m) : SO s (some e) (oSome m) := PO.weak (po_some he) fun σ H Q q => by
  obtain ⟨ρ, S, A, c, q⟩ := q
  refine ⟨ρ, S, A, c, ?_⟩
  unfold oSome at q
  cases e : m ρ S with
  | exc x fs S1 => rw [e] at q; exact q
  | bad => rw [e] at q; exact q
  | ok d S1 =>
    rw [e] at q
    intro v H1 p r f
    dsimp only [bind_ok] at q
    split at q
    · rename_i i
      refine ⟨i, ?_, q H1 p⟩
      rcases r with ⟨_, _, z, _⟩ | r | ⟨_, _, _, z, _⟩
      · cases z
      · cases r; rfl
      · cases z
    · exact q.elim
theorem tDo_bind {m : MO} {k : Option Int → Store → Res D} {Q : VK} {Q' : Option Int → Hp → Prop} (c : Cn s ρ S A σ H) (h : EOut s A S H σ Q ((m ρ S).bind k))
    (go : ∀ b S1 H1, Pst s.X.K A S H S1 H1 → Cn s ρ S1 A σ H1 → EOut s A S1 H1 σ Q (k b S1) → Q' b H1) : tDo s m σ H Q' := by
  refine ⟨ρ, S, A, c, ?_⟩
  cases e : m ρ S with
  | ok d S1 => intro H1 p; rw [e] at h; exact go d S1 H1 p (c.step p) (EOut.on c.cells p h)
  | exc x fs S1 => intro dd H1 p q; rw [e] at h; exact h dd H1 p q
  | bad => rw [e] at h; exact h
theorem RpAll.cut {K : PySem.W.Frag} {H : Hp} {O : Ow} {vs : List V} {ds : List D} (r : RpAll K H O vs ds) (lo hi : Option Int) : RpAll K H O (cutV vs lo hi) (cutD ds lo hi) := by
  unfold cutV cutD
  rw [r.length]
  exact (r.drop _).take _
def rSl3 (K : PySem.W.Frag) : V → Option Int → Option Int → Hp → VK → Prop := fun x lo hi H Q => rSlA K x lo hi H Q ∨ rSlL K x lo hi H Q
theorem cut_whole {ds : List D} {lo hi : Option Int} (h : HT.sIx ds.length 0 lo = 0 ∧ HT.sIx ds.length ds.length hi = ds.length) : cutD ds lo hi = ds := by
  unfold cutD
  rw [h.1, h.2]
  simp
theorem se_cut {e : Expr} {lo hi : Option Expr} {m : ME} {l h : MO} {p2 pos : Pos} (he : SE s e m) (hl : SO s lo l) (hu : SO s hi h) : SE s (.Subscript e (.Slice lo hi none p2) pos) (mCut m l h) := by
  refine PE.weak (pe_slice (sl_tupA.or sl_list) he hl hu) fun σ H Q q => ?_
  obtain ⟨ρ, S, A, c, q⟩ := q
  refine tD_bind c q fun d S1 v H1 _ p1 c1 r1 _ q1 => ?_
  refine tDo_bind c1 (q1.on c.cells p1) fun lo S2 H2 p2 c2 q2 => ?_
  refine tDo_bind c2 q2 fun hi S3 H3 p3 c3 q3 => ?_
  have r3 := (r1.step c1.cells p2).step c2.cells p3
  cases hf : dCut S3 d lo hi with
  | none => rw [hf] at q3; exact q3.elim
  | some x =>
    rw [hf] at q3
    have q4 := fin_opt c3.cells q3
    unfold dCut at hf
    split at hf
    · rename_i ys e
      cases hf
      obtain ⟨a, xs, rfl, h3, h4⟩ := (r3.as c3.cells e).tup
      refine .inl ⟨a, xs, rfl, h3, fun z => ?_, fun _ => new_tup c3.cells (h4.cut lo hi) q4⟩
      rw [h4.length] at z
      rw [cut_whole z] at q4
      exact old_of (.tup h3 h4) rfl q4
    · rename_i f ys e
      cases hf
      obtain ⟨a, xs, rfl, h3, h4⟩ := (r3.as c3.cells e).lst
      exact .inr ⟨a, xs, rfl, .of h3, new_lst c3.cells (h4.cut lo hi) q4⟩
    · rename_i ys e
      cases hf
      obtain ⟨a, xs, rfl, h3, h4⟩ := (r3.as c3.cells e).list rfl
      exact .inr ⟨a, xs, rfl, h3, new_lst c3.cells (h4.cut lo hi) q4⟩
    · cases hf
end

/-! ### cells that change -/
theorem Pst.mut {K : PySem.W.Frag} {A : Wy} {S : Store} {H : Hp} {n : Nat} {f f' : Bool} {ds ds' : List D} {xs' : List V} (c : Cells K A S H) (h : S[n]? = some (some (.lst f ds))) (r : RpAll K H (Own A S) xs' ds') :
    Pst K A S H (S.set n (some (.lst f' ds'))) (upd H (A.loc n) (.lst xs')) := by
  have hn : n < S.length := by
    rcases Nat.lt_or_ge n S.length with z | z
    · exact z
    · rw [List.getElem?_eq_none z] at h; cases h
  have oc : OwC A S (A.loc n) := ⟨n, _, h, rfl⟩
  have e : Ext (OwC A S) H (upd H (A.loc n) (.lst xs')) := fun a o q z => by
    rw [upd_ne (fun y => z (by rw [y]; exact oc))]
    exact q
  have lv : Lives S (S.set n (some (.lst f' ds'))) := fun m => by
    rw [List.getElem?_set]
    split
    · rename_i z; subst z
      rw [h]; rfl
    · rfl
  have get : ∀ (m : Nat) (d : D), (S.set n (some (.lst f' ds')))[m]? = some (some d) → (m = n ∧ d = .lst f' ds') ∨ (m ≠ n ∧ S[m]? = some (some d)) := fun m d q => by
    rw [List.getElem?_set] at q
    split at q
    · rename_i z
      cases q
      exact .inl ⟨z.symm, rfl⟩
    · rename_i z; exact .inr ⟨fun y => z y.symm, q⟩
  refine ⟨e, lv, List.length_set .., ⟨fun m d q => ?_, fun m k d e' q q' z => ?_, fun a z => ?_, fun a z => by rw [lv.ownC]; exact c.apart a z⟩⟩
  · rw [lv.own]
    rcases get m d q with ⟨rfl, rfl⟩ | ⟨h1, h2⟩
    · exact .lst upd_same (r.ext c.owns e.own (.refl _ _))
    · refine (c.at_ m d h2).ext c.owns e.own (.refl _ _) fun o w => ?_
      rw [upd_ne (fun y => h1 (c.inj m n d _ h2 h y))]
      exact w
  · have live : ∀ (m : Nat) (d : D), (S.set n (some (.lst f' ds')))[m]? = some (some d) → ∃ d', S[m]? = some (some d') := fun m d q => by
      rcases get m d q with ⟨rfl, rfl⟩ | ⟨h1, h2⟩
      · exact ⟨_, h⟩
      · exact ⟨_, h2⟩
    obtain ⟨d1, h1⟩ := live m d q
    obtain ⟨d2, h2⟩ := live k e' q'
    exact c.inj m k d1 d2 h1 h2 z
  · by_cases y : a = A.loc n
    · exact absurd (by rw [y]; exact oc) (c.apart a z)
    · rw [upd_ne y]; exact c.phs a z
/-- a list's method that changes it: from the content and the arguments the new content and the value -/
def MutSem (s : Sit) (f : List D → List D → Option (List D × D)) (r : V → List V → Hp → VK → Prop) : Prop :=
  ∀ (A : Wy) (S : Store) (H : Hp) (n : Nat) (fl : Bool) (ds : List D) (vs : List V) (args : List D) (ds' : List D) (x : D) (Q : VK), Cells s.X.K A S H → S[n]? = some (some (.lst fl ds)) → RpL s.X.K s.Z A S H vs args → f ds args = some (ds', x) →
    (∀ z H', Pst s.X.K A S H (S.set n (some (.lst fl ds'))) H' → Rp s.X.K H' (Own A (S.set n (some (.lst fl ds')))) z x → Q z H') → r (.ref (A.loc n)) vs H Q
def cellL (S : Store) (n : Nat) : Option (Bool × List D) := match S[n]? with
  | some (some (.lst f xs)) => some (f, xs)
  | _ => none
theorem cellL_eq {S : Store} {n : Nat} {f : Bool} {xs : List D} (h : cellL S n = some (f, xs)) : S[n]? = some (some (.lst f xs)) := by
  unfold cellL at h
  split at h
  · rename_i e; cases h; exact e
  · cases h
/-- o.m(..), o a list of its own -/
def mMut (f : List D → List D → Option (List D × D)) (o : ME) (a : MA) : ME := fun ρ S => (o ρ S).bind fun d S1 => match d with
  | .loc n => if (cellL S1 n).isSome then (a ρ S1).bind fun args S2 => match cellL S2 n with
    | some (fl, xs) => match f xs args with
      | some (xs', x) => if isNew x then .bad else .ok x (S2.set n (some (.lst fl xs')))
      | none => .bad
    | none => .bad else .bad
  | _ => .bad
section
variable {s : Sit}
theorem mut_red {f : List D → List D → Option (List D × D)} {r : V → List V → Hp → VK → Prop} (sem : MutSem s f r) {o : ME} {a : MA} {σ : St} {H : Hp} {Q : VK} (q : tD s (mMut f o a) σ H Q) : tBM s.X.K "list" r (tD s o) (tDa s a) σ H Q := by
  obtain ⟨ρ, S, A, c, q⟩ := q
  refine tD_bind c q fun d S1 v H1 em p1 c1 r1 f1 q1 => ?_
  split at q1
  · rename_i n
    split at q1
    case isFalse => exact q1.elim
    rename_i hl
    obtain ⟨⟨fl, xs⟩, hl⟩ := Option.isSome_iff_exists.mp hl
    have hv : v = .ref (A.loc n) := by
      rcases r1 with ⟨m, e, h1, h2, h3⟩ | r1 | ⟨_, _, _, z, _⟩
      · cases h1; exact h2
      · cases r1
      · cases z
    subst hv
    cases c1.cells.at_ n _ (cellL_eq hl) with
    | lst h1 h2 =>
      refine ⟨.inl ⟨rfl, _, .of h1⟩, tDa_bind c1 (q1.on c.cells p1) fun args S2 vs H2 _ p2 c2 r2 q2 => ?_⟩
      split at q2
      case h_2 => exact q2.elim
      rename_i fl2 xs2 hc
      split at q2
      case h_2 => exact q2.elim
      rename_i xs' x hf
      split at q2
      · exact q2.elim
      · rename_i hx
        exact sem A S2 H2 n fl2 xs2 vs args xs' x Q c2.cells (cellL_eq hc) r2 hf fun z H3 p3 r3 => q2 z H3 p3 (.inr (.inl r3)) (.old (by simpa using hx))
  · exact q1.elim
def fAppend (xs args : List D) : Option (List D × D) := match args with
  | [d] => if plain d && decide (xs.length < LINE) then some (xs ++ [cool d], .non) else none
  | _ => none
def fExtend (xs args : List D) : Option (List D × D) := match args with
  | [.lst _ ys] => if xs.length + ys.length ≤ LINE then some (xs ++ ys, .non) else none
  | _ => none
def fPop (xs args : List D) : Option (List D × D) := match args with
  | [] => (xs[xs.length - 1]?).map fun y => (xs.dropLast, cool y)
  | _ => none
def fPopAt (xs args : List D) : Option (List D × D) := match args with
  | [.int i] => if i ≤ 9223372036854775807 ∧ -9223372036854775808 ≤ i then (match seqIndex? i xs.length with
    | some k => (xs[k]?).map fun y => (xs.eraseIdx k, cool y)
    | none => none) else none
  | _ => none
theorem sem_append : MutSem s fAppend rAppend := by
  intro A S H n fl ds vs args ds' x Q c hn r hf q
  unfold fAppend at hf
  split at hf
  · rename_i d
    split at hf
    · rename_i hp
      simp only [Bool.and_eq_true, decide_eq_true_eq] at hp
      cases hf
      obtain ⟨v, rfl, rr⟩ := r.one
      cases c.at_ n _ hn with
      | lst h1 h2 =>
        refine ⟨_, _, v, rfl, rfl, h1, by rw [line_eq, h2.length]; exact hp.2, ?_⟩
        have p := Pst.mut (f' := fl) c hn (h2.append (.cons (rr.plain hp.1).cool .nil))
        exact q .non _ p .non
    · cases hf
  · cases hf
theorem RpAll.dropLast {K : PySem.W.Frag} {H : Hp} {O : Ow} {vs : List V} {ds : List D} (r : RpAll K H O vs ds) : RpAll K H O vs.dropLast ds.dropLast := by
  rw [List.dropLast_eq_take, List.dropLast_eq_take, r.length]
  exact r.take _
theorem sem_pop : MutSem s fPop rPop := by
  intro A S H n fl ds vs args ds' x Q c hn r hf q
  unfold fPop at hf
  split at hf
  · simp only [Option.map_eq_some_iff] at hf
    obtain ⟨y, h, e⟩ := hf
    cases e
    cases r
    cases c.at_ n _ hn with
    | lst h1 h2 =>
      obtain ⟨v, h3, h4⟩ := h2.get h
      rw [← h2.length] at h3
      have p := Pst.mut (f' := fl) c hn h2.dropLast
      exact ⟨_, _, v, rfl, rfl, h1, h3, q v _ p (h4.cool.step c p)⟩
  · cases hf
theorem sem_popAt : MutSem s fPopAt rPopAt := by
  intro A S H n fl ds vs args ds' x Q c hn r hf q
  unfold fPopAt at hf
  split at hf
  · rename_i i
    split at hf
    case isFalse => cases hf
    rename_i hi
    split at hf
    case h_2 => cases hf
    rename_i k hk
    simp only [Option.map_eq_some_iff] at hf
    obtain ⟨y, h, e⟩ := hf
    cases e
    have hv := r.int1
    subst hv
    cases c.at_ n _ hn with
    | lst h1 h2 =>
      obtain ⟨v, h3, h4⟩ := h2.get h
      have p := Pst.mut (f' := fl) c hn (h2.eraseIdx k)
      exact ⟨_, _, i, k, v, rfl, rfl, h1, by omega, by omega, by rw [h2.length]; exact hk, h3, q v _ p (h4.cool.step c p)⟩
  · cases hf
theorem sem_extend : MutSem s fExtend rExtend := by
  intro A S H n fl ds vs args ds' x Q c hn r hf q
  unfold fExtend at hf
  split at hf
  · rename_i f ys
    split at hf
    · rename_i hl
      cases hf
      obtain ⟨v, rfl, rr⟩ := r.one
      cases rr.rp (fun n z => nomatch z) fun c fs z => nomatch z with
      | lst n3 h3 h4 =>
        cases c.at_ n _ hn with
        | lst h1 h2 =>
          exact ⟨_, _, _, _, rfl, rfl, h1, h3, by rw [line_eq, h2.length, h4.length]; exact hl, q .non _ (Pst.mut (f' := fl) c hn (h2.append h4)) .non⟩
    · cases hf
  · cases hf
end
end Dv

namespace Dv
open PySem PySem.Spec PyProof.Rows L2
set_option autoImplicit false

section
variable {s : Sit} {ρ : Rho} {S S1 : Store} {A : Wy} {σ : St} {H H1 : Hp}
theorem tD_mono {m : ME} {Q Q' : VK} (h : ∀ v H, Q v H → Q' v H) (q : tD s m σ H Q) : tD s m σ H Q' := by
  obtain ⟨ρ, S, A, c, q⟩ := q
  refine ⟨ρ, S, A, c, ?_⟩
  cases e : m ρ S with
  | ok d S1 => rw [e] at q; intro v H1 p r f; exact h _ _ (q v H1 p r f)
  | exc x fs S1 => rw [e] at q; exact q
  | bad => rw [e] at q; exact q
end

/-! ### o.m(..) -/
section
variable {s : Sit} {o e : Expr} {es : List Expr} {mo : ME} {ma : MA} {name : Str} {apos cpos : Pos} {id : String} {r : V → List V → Hp → VK → Prop} {f : List D → List D → Option (List D × D)}
theorem se_mut (slot : Slot "list" name id) (hty : typeOf (.builtin id) = pure (.type "method_descriptor")) (hm : MtR s.X id r) (sem : MutSem s f r) (ho : SE s o mo) (ha : SA s (e :: es) ma)
    (hbase : attributeBase o name s.X.env (eval o s.X.env) = eval o s.X.env := by rfl)
    (hfew : ((backTo cpos (starEach (e :: es) s.X.env)).all (fun x => !x.1) && (backToKw cpos (keywordEach [] s.X.env)).all (fun x => x.1.isSome)
      && decide ((e :: es).length + ([] : List Keyword).length + (if ([] : List Keyword).isEmpty then 0 else 1) < 30)) = true := by rfl)
    (hline : (apos.endLine == cpos.line) = true := by rfl) (hs : starEach (e :: es) s.X.env = (false, eval e s.X.env) :: starEach es s.X.env := by rfl) (hplain : (backTo cpos (starEach es s.X.env)).any (·.1) = false := by rfl) :
    SE s (.Call (.Attribute o name apos) (e :: es) [] cpos) (mMut f mo ma) :=
  PE.weak (pe_bm PySem.F.plainAttrs_list slot hty hm ho ha hbase hfew hline hs hplain) fun _ _ _ q => mut_red sem q
theorem se_mut0 (slot : Slot "list" name id) (hty : typeOf (.builtin id) = pure (.type "method_descriptor")) (hm : MtR s.X id r) (sem : MutSem s f r) (ho : SE s o mo)
    (hbase : attributeBase o name s.X.env (eval o s.X.env) = eval o s.X.env := by rfl) (hline : (apos.endLine == cpos.line) = true := by rfl) :
    SE s (.Call (.Attribute o name apos) [] [] cpos) (mMut f mo aNil) :=
  PE.weak (pe_bm0 PySem.F.plainAttrs_list slot hty hm ho hbase hline) fun σ H Q q => by
    refine tD_mono (fun v H1 h => ⟨h.1, ?_⟩) (mut_red sem q)
    obtain ⟨ρ, S, A, c, q⟩ := h.2
    exact q [] H1 (.refl c.cells) .nil
end

/-! ### o[i] = e -/
/-- the item's new value -/
def setAt (ρ : Rho) (S : Store) (c j d : D) : ResS := match c, j with
  | .loc n, .int k => match cellL S n with
    | some (f, xs) => match ixN xs.length k with
      | some i => if plain d then .nx ρ (S.set n (some (.lst f (xs.set i (cool d))))) else .bad
      | none => .bad
    | none => .bad
  | _, _ => .bad
def mSetIx (m o i : ME) : MS := fun ρ S => bindE (m ρ S) ρ fun d S1 => bindE (o ρ S1) ρ fun c S2 => bindE (i ρ S2) ρ fun j S3 => setAt ρ S3 c j d
/-- the item of a list alone -/
def dIxL (S : Store) (d e : D) : Option D := match vw S d, vw S e with
  | .lst _ xs, .int i => (atI xs i).map cool
  | .rol xs, .int i => (atI xs i).map cool
  | _, _ => none
/-- o[i] op= e -/
def mAugIx (f : Store → D → D → Option D) (o i m : ME) : MS := fun ρ S => bindE (o ρ S) ρ fun c S1 => bindE (i ρ S1) ρ fun j S2 => match dIxL S2 c j with
  | some x => bindE (m ρ S2) ρ fun y S3 => match f S3 x y with
    | some z => setAt ρ S3 c j z
    | none => .bad
  | none => .bad
/-- name op= e -/
def mAug (f : Store → D → D → Option D) (base i : Nat) (m : ME) : MS := fun ρ S => match ρ[i]? with
  | some (some x) => if plain x then bindE (m ρ S) ρ fun y S1 => match f S1 x y with
    | some z => holdV base i z ρ S1
    | none => .bad else .bad
  | _ => .bad
section
variable {s : Sit} {ρ : Rho} {S S1 : Store} {A : Wy} {σ : St} {H H1 : Hp}
theorem loc_of {v : V} {n : Nat} (r : RpS s.X.K s.Z A S H v (.loc n)) : v = .ref (A.loc n) := by
  rcases r with ⟨m, e, h1, h2, h3⟩ | r1 | ⟨_, _, _, z, _⟩
  · cases h1; exact h2
  · cases r1
  · cases z
theorem setAt_go {v w x : V} {c j d : D} {D : Ends} (cn : Cn s ρ S A σ H) (r1 : RpS s.X.K s.Z A S H w c) (r2 : RpS s.X.K s.Z A S H x j) (r : RpS s.X.K s.Z A S H v d) (q : SOut s A S H D (setAt ρ S c j d)) :
    rSetL w x v H fun H1 => D.nx σ H1 := by
  unfold setAt at q
  split at q
  · rename_i n k
    split at q
    · rename_i f xs hc
      split at q
      · rename_i i hi
        split at q
        · rename_i hp
          rw [loc_of r1, int_of r2]
          cases cn.cells.at_ n _ (cellL_eq hc) with
          | lst h1 h2 =>
            have p := Pst.mut (f' := f) cn.cells (cellL_eq hc) (h2.set (r.plain hp).cool i)
            exact ⟨_, _, k, i, rfl, rfl, h1, by rw [h2.length]; exact hi, q σ _ A (p.pss cn.cells) (cn.step p)⟩
        · exact q.elim
      · exact q.elim
    · exact q.elim
  · exact q.elim
variable {o i e : Expr} {mo mi m : ME} {tpos pos : Pos}
theorem s_setIx (he : SE s e m) (ho : SE s o mo) (hi : SE s i mi)
    (ha : ∀ v, assign (.Subscript o i tpos) s.X.env v = (do
      let ov ← holding [v] (eval o s.X.env)
      let iv ← holding [v, ov] (eval i s.X.env)
      standAt tpos
      holding [v, ov, iv] (setItem ov iv v)
      release [v, ov, iv] []) := by intro _; rfl)
    (hs : swapsWithSole [.Subscript o i tpos] e pos.line s.X.env = pure false := by rfl) (hw : swappedStores [.Subscript o i tpos] e s.X.env = pure none := by rfl)
    (h1 : (assignEach [.Subscript o i tpos] s.X.env).map (·.2) = [assign (.Subscript o i tpos) s.X.env] := by rfl) : SS s (.Assign [.Subscript o i tpos] e pos) (mSetIx m mo mi) :=
  PS.weak (ps_asg he (pg_sub ho hi set_list ha) hs hw h1) fun D σ H q => by
    obtain ⟨ρ, S, A, c, q⟩ := q
    refine tD_bindS c q fun d S1 v H1 _ p1 c1 r1 _ q1 => ?_
    refine tD_bindS c1 q1 fun cc S2 w H2 _ p2 c2 r2 _ q2 => ?_
    refine tD_bindS c2 q2 fun j S3 x H3 _ p3 c3 r3 _ q3 => ?_
    exact setAt_go c3 (r2.step c2.cells p3) r3 ((r1.step c1.cells p2).step c2.cells p3) q3
theorem get_any : PGet s.X (rIxL s.X.K) := by
  intro pins sh σ H x y v u Q I rx ry h
  obtain ⟨p, xs, i, z, rfl, rfl, hq, he, q⟩ := h
  cases rx
  obtain ⟨t, rfl⟩ := ry
  obtain ⟨its, r, pl, hz⟩ := I.list hq
  obtain ⟨j, h1, h2, h3, h4, h5⟩ := atI_get he
  obtain ⟨w, ew, rw'⟩ := r.get h2
  have hl := r.length
  have hn := line63
  have fin : EP s.X pins σ Q w sh := ⟨z, H, I, rw', q⟩
  by_cases h0 : 0 ≤ i
  · have hj : i.toNat = j := by
      rw [seqIndex_of h0 h5] at h1
      exact Option.some.inj h1
    refine wpAny_mono (wpAny_getItem_list (Q := fun r s' => r = w ∧ EP s.X pins σ Q r s') pl.isList h0 (by omega) (by rw [hj]; simpa using ew) ⟨rfl, fin⟩) (fun r s' k => k.2) fun _ _ k => k
  · have hj : (i + (its.toArray.size : Int)).toNat = j := by
      rw [seqIndex_neg (by omega) h4] at h1
      rw [List.size_toArray, ← hl]
      exact Option.some.inj h1
    refine wpAny_mono (wpAny_getItem_list_neg (Q := fun r s' => r = w ∧ EP s.X pins σ Q r s') pl.isList (by omega) (by rw [List.size_toArray] <;> omega) (by omega) (by rw [hj]; simpa using ew) ⟨rfl, fin⟩) (fun r s' k => k.2) fun _ _ k => k
theorem sem_ixL : OpSem s dIxL (rIxL s.X.K) := by
  intro A S H v w d e x Q c rd re hf q
  unfold dIxL at hf
  split at hf
  · rename_i f ys i h1 h2
    simp only [Option.map_eq_some_iff] at hf
    obtain ⟨y', hf, rfl⟩ := hf
    obtain ⟨a, xs, rfl, h3, h4⟩ := (rd.as c h1).lst
    have e2 := (re.as c h2).int
    subst e2
    obtain ⟨u, h5, h6⟩ := atI_rp h4 hf
    exact ⟨a, xs, i, u, rfl, rfl, .of h3, h5, old_of h6.cool (isNew_cool _) q⟩
  · rename_i ys i h1 h2
    simp only [Option.map_eq_some_iff] at hf
    obtain ⟨y', hf, rfl⟩ := hf
    obtain ⟨a, xs, rfl, h3, h4⟩ := (rd.as c h1).list rfl
    have e2 := (re.as c h2).int
    subst e2
    obtain ⟨u, h5, h6⟩ := atI_rp h4 hf
    exact ⟨a, xs, i, u, rfl, rfl, h3, h5, old_of h6.cool (isNew_cool _) q⟩
  · cases hf
theorem Same.pst {K : PySem.W.Frag} (c : Cells K A S H) (h : Same H H1) : Pst K A S H S H1 := .of_same c h
/-- o[i] op= e -/
theorem s_augIx {op : Operator} {f : Store → D → D → Option D} {r : R2} (ho : SE s o mo) (hi : SE s i mi) (he : SE s e m) (hp : OpR s.X (inplaceOp op) r) (sem : OpSem s f r)
    (ha : ∀ ov iv new, augStore i ov iv new = (do holding [new, ov, iv] (setItem ov iv new); release [new, ov, iv] []; pure .next) := by intros; rfl) : SS s (.AugAssign (.Subscript o i tpos) op e pos) (mAugIx f mo mi m) :=
  PS.weak (ps_augS ho hi get_any he hp set_list ha) fun D σ H q => by
    obtain ⟨ρ, S, A, c, q⟩ := q
    refine tD_bindS c q fun cc S1 w H1 _ p1 c1 r1 _ q1 => ?_
    refine tD_bindS c1 q1 fun j S2 x H2 _ p2 c2 r2 _ q2 => ?_
    have r1' := r1.step c1.cells p2
    cases hx : dIxL S2 cc j with
    | none => rw [hx] at q2; exact q2.elim
    | some y =>
      rw [hx] at q2
      refine sem_ixL A S2 H2 w x cc j y _ c2.cells r1' r2 hx fun z H3 sm rz _ => ?_
      have p3 : Pst s.X.K A S2 H2 S2 H3 := .of_same c2.cells sm
      have c3 := c2.step p3
      have q3 := SOut.on (p3.pss c2.cells) q2
      refine tD_bindS c3 q3 fun d S4 v H4 _ p4 c4 r4 _ q4 => ?_
      cases hf : f S4 y d with
      | none => rw [hf] at q4; exact q4.elim
      | some k =>
        rw [hf] at q4
        refine sem A S4 H4 z v y d k _ c4.cells (rz.step c3.cells p4) r4 hf fun u H5 sm5 ru _ => ?_
        have p5 : Pst s.X.K A S4 H4 S4 H5 := .of_same c4.cells sm5
        have c5 := c4.step p5
        exact setAt_go c5 (((r1'.step c2.cells p3).step c3.cells p4).step c4.cells p5) (((r2.step c2.cells p3).step c3.cells p4).step c4.cells p5) ru (SOut.on (p5.pss c4.cells) q4)
/-- name op= e -/
theorem s_aug {op : Operator} {f : Store → D → D → Option D} {r : R2} {k : Nat} {x : Str} {pos' : Pos} (hN : s.X.N.Nodup) (hi : s.X.N[k]? = some x) (hx : Loc s.X.env.scope x) (he : SE s e m) (hp : OpR s.X (inplaceOp op) r) (sem : OpSem s f r)
    (hf : s.X.fn x = true ∨ s.X.env.scope.names.lookup x = some .local := by first | exact .inl rfl | exact .inr rfl | assumption) : SS s (.AugAssign (.Name x pos') op e pos) (mAug f s.base k m) :=
  PS.weak (ps_aug hN hi hx he hp hf) fun D σ H q => by
    obtain ⟨ρ, S, A, c, q⟩ := q
    unfold mAug at q
    split at q
    · rename_i d hd
      split at q
      · rename_i hpl
        obtain ⟨v, h1, h2⟩ := c.slot k d hd
        refine ⟨v, h1, ?_⟩
        refine tD_bindS c q fun y S1 w H1 _ p1 c1 r1 _ q1 => ?_
        cases hf : f S1 d y with
        | none => rw [hf] at q1; exact q1.elim
        | some z =>
          rw [hf] at q1
          refine sem A S1 H1 v w d y z _ c1.cells (h2.step c.cells p1) r1 hf fun u H2 sm ru _ => ?_
          have p2 : Pst s.X.K A S1 H1 S1 H2 := .of_same c1.cells sm
          exact holdV_go (c1.step p2) ru (SOut.on (p2.pss c1.cells) q1)
      · exact q.elim
    · exact q.elim
end

/-! ### in -/
def pySeq (S : Store) (d : D) : Option (List PyData) := match pyOf S d with
  | some (.list xs) => some xs
  | some (.tuple xs) => some xs
  | _ => none
def inD (S : Store) (d e : D) : Option Bool := match pyOf S d, pySeq S e with
  | some p, some ps => some (ps.any fun z => PyData.eqv z p)
  | _, _ => none
def dIn (S : Store) (d e : D) : Option D := (inD S d e).map .bl
def dNotIn (S : Store) (d e : D) : Option D := (inD S d e).map fun b => .bl (!b)
section
variable {s : Sit}
def rInT (K : PySem.W.Frag) (n : Bool) : R2 := fun x y H Q => ∃ d ds, Dp K H x d ∧ Dp K H y (.tuple ds) ∧ SeqAt.shaped d = true ∧ SeqAt.shaped (.tuple ds) = true ∧ Q (.bl (if n then !(ds.any fun z => PyData.eqv z d) else ds.any fun z => PyData.eqv z d)) H
theorem op_inT {X : Cx} (hu : X.A.units + 65 < cLine) : OpR X (compareOp .In) (rInT X.K false) := by
  intro pins s σ H x y v u Q I rx ry h
  obtain ⟨d, ds, hd, he, sd, se, q⟩ := h
  obtain ⟨as, r1⟩ := Dp.reads I d x v hd rx
  obtain ⟨bs, r2⟩ := Dp.reads I (.tuple ds) y u he ry
  exact SeqAt.in_tuple_reads r2 r1 (SeqAt.canLay_of_shaped se) (SeqAt.canLay_of_shaped sd) (room_in_shaped sd hu) ⟨.bl _, H, I, rfl, q⟩
theorem op_notInT {X : Cx} (hu : X.A.units + 65 < cLine) : OpR X (compareOp .NotIn) (rInT X.K true) := by
  intro pins s σ H x y v u Q I rx ry h
  obtain ⟨d, ds, hd, he, sd, se, q⟩ := h
  obtain ⟨as, r1⟩ := Dp.reads I d x v hd rx
  obtain ⟨bs, r2⟩ := Dp.reads I (.tuple ds) y u he ry
  exact SeqAt.notIn_tuple_reads r2 r1 (SeqAt.canLay_of_shaped se) (SeqAt.canLay_of_shaped sd) (room_in_shaped sd hu) ⟨.bl _, H, I, rfl, q⟩
theorem op_in2 (hu : s.X.A.units + 65 < cLine) : OpR s.X (compareOp .In) (fun x y H Q => rInD s.X.K x y H Q ∨ rInT s.X.K false x y H Q) := (op_inD hu).or (op_inT hu)
theorem op_notIn2 (hu : s.X.A.units + 65 < cLine) : OpR s.X (compareOp .NotIn) (fun x y H Q => rNotInD s.X.K x y H Q ∨ rInT s.X.K true x y H Q) := (op_notInD hu).or (op_notInT hu)
theorem pySeq_dp {A : Wy} {S : Store} {H : Hp} {v : V} {d : D} {ps : List PyData} (c : Cells s.X.K A S H) (r : RpS s.X.K s.Z A S H v d) (h : pySeq S d = some ps) :
    (Dp s.X.K H v (.list ps) ∧ SeqAt.shaped (.list ps) = true) ∨ (Dp s.X.K H v (.tuple ps) ∧ SeqAt.shaped (.tuple ps) = true) := by
  unfold pySeq at h
  split at h
  · rename_i xs e; cases h; exact .inl (pyOf_dp c r e)
  · rename_i xs e; cases h; exact .inr (pyOf_dp c r e)
  · cases h
theorem sem_in : OpSem s dIn (fun x y H Q => rInD s.X.K x y H Q ∨ rInT s.X.K false x y H Q) := by
  intro A S H v w d e x Q c rd re hf q
  simp only [dIn, Option.map_eq_some_iff] at hf
  obtain ⟨b, hf, rfl⟩ := hf
  unfold inD at hf
  split at hf
  · rename_i p ps h1 h2
    cases hf
    obtain ⟨a1, a2⟩ := pyOf_dp c rd h1
    rcases pySeq_dp c re h2 with ⟨b1, b2⟩ | ⟨b1, b2⟩
    · exact .inl ⟨p, ps, a1, b1, a2, b2, old_of (.bl _) rfl q⟩
    · exact .inr ⟨p, ps, a1, b1, a2, b2, old_of (.bl _) rfl q⟩
  · cases hf
theorem sem_notIn : OpSem s dNotIn (fun x y H Q => rNotInD s.X.K x y H Q ∨ rInT s.X.K true x y H Q) := by
  intro A S H v w d e x Q c rd re hf q
  simp only [dNotIn, Option.map_eq_some_iff] at hf
  obtain ⟨b, hf, rfl⟩ := hf
  unfold inD at hf
  split at hf
  · rename_i p ps h1 h2
    cases hf
    obtain ⟨a1, a2⟩ := pyOf_dp c rd h1
    rcases pySeq_dp c re h2 with ⟨b1, b2⟩ | ⟨b1, b2⟩
    · exact .inl ⟨p, ps, a1, b1, a2, b2, old_of (.bl _) rfl q⟩
    · exact .inr ⟨p, ps, a1, b1, a2, b2, old_of (.bl _) rfl q⟩
  · cases hf
end

/-! ### isinstance(x, int), .. -/
def tyD : D → Option String
  | .non => some "NoneType"
  | .bl _ => some "bool"
  | .int _ => some "int"
  | .str _ => some "str"
  | .tup _ => some "tuple"
  | .lst _ _ => some "list"
  | .rol _ => some "list"
  | .dct _ _ => some "dict"
  | _ => none
/-- of two types of Python: whether the one is of the other -/
def isTy (t n : String) : Bool := t == n || (t == "bool" && n == "int")
def tyNames : List String := ["NoneType", "bool", "int", "str", "tuple", "list", "dict"]
def cIsi (S : Store) (ds : List D) : Option D := match ds with
  | [d, .ty n] => match tyD (vw S d) with
    | some t => if tyNames.contains n then some (.bl (isTy t n)) else none
    | none => none
  | _ => none
theorem kit_names (K : PySem.W.Frag) : ∀ t ∈ tyNames, ∀ n ∈ tyNames, PySem.W.kitOne K (.type t) (.type n) = some (isTy t n) := by
  intro t ht n hn
  simp only [tyNames, List.mem_cons, List.mem_nil_iff, or_false] at ht hn
  rcases ht with rfl | rfl | rfl | rfl | rfl | rfl | rfl <;> rcases hn with rfl | rfl | rfl | rfl | rfl | rfl | rfl <;> rfl
section
variable {s : Sit} {A : Wy} {S : Store} {H : Hp} {v : V} {d : D} {t : String}
theorem TyX.sqT {K : PySem.W.Frag} {a : Addr} {xs : List V} (h : SqT K H a xs) : TyX K H (.ref a) (.type "tuple") := by
  rcases h with (h | ⟨o, h⟩) | ⟨o, _, _, h1, h2, _⟩
  · exact .base (.tup h)
  · exact .fTuple h
  · exact .kTuple h1 h2
theorem tyD_ok (c : Cells s.X.K A S H) (r : RpS s.X.K s.Z A S H v d) (h : tyD (vw S d) = some t) : TyX s.X.K H v (.type t) ∧ t ∈ tyNames := by
  unfold tyD at h
  split at h
  · rename_i e; cases h; rw [(r.as c e).non]; exact ⟨.base .non, by decide⟩
  · rename_i b e; cases h; rw [(r.as c e).bl]; exact ⟨.base (.bl _), by decide⟩
  · rename_i b e; cases h; rw [(r.as c e).int]; exact ⟨.base (.int _), by decide⟩
  · rename_i b e; cases h; rw [(r.as c e).str]; exact ⟨.base (.str _), by decide⟩
  · rename_i b e
    cases h
    obtain ⟨a, xs, rfl, h1, _⟩ := (r.as c e).tup
    exact ⟨TyX.sqT h1, by decide⟩
  · rename_i f b e
    cases h
    obtain ⟨a, xs, rfl, h1, _⟩ := (r.as c e).lst
    exact ⟨.base (.lst h1), by decide⟩
  · rename_i b e
    cases h
    cases r.as c e with
    | rp r =>
      cases r with
      | rol h _ =>
        rcases h with ⟨o, h⟩ | ⟨o, _, _, h1, h2, _⟩
        · exact ⟨.base (.frz h), by decide⟩
        · exact ⟨.kList h1 h2, by decide⟩
    | cell ce => cases ce
  · rename_i f b e
    cases h
    cases r.as c e with
    | rp r => cases r with | dct _ h _ => exact ⟨.base (.dK h), by decide⟩
    | cell ce => cases ce with | dct h _ => exact ⟨.base (.dK h), by decide⟩
  · cases h
theorem sem_isi : CallSem s cIsi (rIsi s.X.K) := by
  intro A S H vs ds x Q c r hf q
  unfold cIsi at hf
  split at hf
  · rename_i d n
    split at hf
    · rename_i t ht
      split at hf
      · rename_i hn
        cases hf
        obtain ⟨v, w, rfl, r1, r2⟩ := r.two
        obtain ⟨h1, h2⟩ := tyD_ok c r1 ht
        have hw : w = .ty n := by
          rcases r2 with ⟨_, _, z, _⟩ | r | ⟨_, _, _, z, _⟩
          · cases z
          · cases r; rfl
          · cases z
        subst hw
        exact ⟨v, .ty n, .type t, .type n, _, rfl, .ty n, h1, kit_names _ t h2 n (by simpa using hn), old_of (.bl _) rfl q⟩
      · cases hf
    · cases hf
  · cases hf
theorem se_ty {x : Str} {n : String} {pos : Pos} (hg : Gl s.X x) (hm : s.X.mg x = none) (hv : bootBuiltins x = some (.type n)) (hn : x ≠ "__name__" := by decide) (hd : (x == ("__debug__" : Str)) = false := by decide) : SE s (.Name x pos) (mK (.ty n)) :=
  se_k (pe_bltn hg hm hv (show RelV (.ty n) (.type n) from rfl) hn hd) (fun _ _ => .ty n) rfl
end
end Dv

namespace HT
open PySem PySem.Spec PyProof.Rows L2
section
variable {prog : Program} {w : World} {A : Around} {E : Value → Shared → Prop} {s : Shared}
theorem adjust_rev (n : Nat) : Builtin.Slice.sliceAdjust none none (-1) (n : Int) = ((n : Int) - 1, -1) := by
  unfold Builtin.Slice.sliceAdjust
  simp
theorem places_rev (n : Nat) : Builtin.Slice.slicePlaces ((n : Int) - 1) (-1) (-1) = n := by
  unfold Builtin.Slice.slicePlaces
  have h1 : ¬ ((-1 : Int) > 0) := by omega
  simp only [h1, if_false]
  have e : -(-1 : Int) = 1 := rfl
  rw [e]
  simp only [Int.ediv_one]
  split <;> omega
theorem sliceApplied_rev {sl : Addr} {vl vu vs : Value} {n : Nat} {Q : Int × Int × Nat → Shared → Prop} (hs : s.heap.IsSliceOf sl vl vu vs) (pl : IsPart vl none) (pu : IsPart vu none) (ps : IsPart vs (some (-1)))
    (h : Q ((n : Int) - 1, -1, n) s) : wpAny (model prog w) A (Builtin.Slice.sliceApplied (.ref sl) (pure (n : Int))) Q E s := by
  obtain ⟨os, hos, hcs, hds⟩ := id hs
  unfold Builtin.Slice.sliceApplied Builtin.Slice.sliceFields
  refine wpAny_bind (wpAny_bind (wpAny_field hos hds (x := vl) rfl (wpAny_bind (wpAny_field hos hds (x := vu) rfl (wpAny_bind (wpAny_field hos hds (x := vs) rfl (wpAny_pure ?_)))))))
  refine wpAny_bind (slicePart_ ps ?_)
  show wpAny _ _ (if ((-1 : Int) == 0) = true then _ else _) _ _ s
  rw [if_neg (by decide)]
  refine wpAny_bind (slicePart_ pl (wpAny_bind (slicePart_ pu (wpAny_bind (wpAny_pure ?_)))))
  show wpAny _ _ (match Builtin.Slice.sliceAdjust none none (-1) (n : Int) with | (lo, hi) => pure (lo, (-1 : Int), Builtin.Slice.slicePlaces lo hi (-1))) _ _ s
  rw [adjust_rev n]
  show wpAny _ _ (pure ((n : Int) - 1, (-1 : Int), Builtin.Slice.slicePlaces ((n : Int) - 1) (-1) (-1))) _ _ s
  rw [places_rev]
  exact wpAny_pure h
theorem fm_congr {α β : Type} {f g : α → Option β} : ∀ {l : List α}, (∀ a ∈ l, f a = g a) → l.filterMap f = l.filterMap g
  | [], _ => rfl
  | a :: l, h => by
    rw [List.filterMap_cons, List.filterMap_cons, h a List.mem_cons_self, fm_congr fun b hb => h b (List.mem_cons_of_mem _ hb)]
theorem pick_rev (xs : Array Value) : ((List.range xs.size).filterMap fun (m : Nat) => xs[((xs.size : Int) - 1 + (m : Int) * (-1)).toNat]?).toArray = xs.toList.reverse.toArray := by
  congr 1
  refine List.ext_getElem? fun i => ?_
  have e : (List.range xs.size).filterMap (fun (m : Nat) => xs[((xs.size : Int) - 1 + (m : Int) * (-1)).toNat]?) = (List.range xs.size).map (fun m => xs.getD (xs.size - 1 - m) .none) := by
    rw [← List.filterMap_eq_map]
    refine fm_congr fun m hm => ?_
    have := List.mem_range.mp hm
    have e2 : ((xs.size : Int) - 1 + (m : Int) * (-1)).toNat = xs.size - 1 - m := by omega
    rw [e2]
    show _ = some (xs.getD (xs.size - 1 - m) .none)
    rw [Array.getD_eq_getD_getElem?, Array.getElem?_eq_getElem (by omega)]
    rfl
  rw [e]
  by_cases hi : i < xs.size
  · rw [List.getElem?_map, List.getElem?_range hi, List.getElem?_reverse (by simpa using hi)]
    simp only [Option.map_some, Array.length_toList, Array.getElem?_toList]
    rw [Array.getD_eq_getD_getElem?, Array.getElem?_eq_getElem (by omega)]
    rfl
  · rw [List.getElem?_eq_none (by simpa using hi), List.getElem?_eq_none (by simpa using hi)]
theorem getItem_tuple_rev {t sl : Addr} {items : Array Value} {vl vu vs : Value} {Q : Value → Shared → Prop} (ht : IsTup s.heap t items) (hs : s.heap.IsSliceOf sl vl vu vs) (pl : IsPart vl none) (pu : IsPart vu none) (ps : IsPart vs (some (-1)))
    (h : Q (.ref s.heap.objs.size) { s with heap := s.heap.push { cls := .type "tuple", data := .seq items.toList.reverse.toArray } })
    (hsz : items.size ≤ sizeLine) : wpAny (model prog w) A (getItem (.ref t) (.ref sl)) Q E s := by
  have htake : sizeOk (.seq items.toList.reverse.toArray) := by
    show items.toList.reverse.toArray.size ≤ sizeLine
    rw [List.size_toArray, List.length_reverse, Array.length_toList]
    omega
  obtain ⟨os, hos, hcs, hds⟩ := id hs
  have hTs : s.TypeIs (.ref sl) "slice" := ⟨os, hos, hcs⟩
  unfold getItem
  try with_reducible refine wpAny_holding ?_
  first | refine wpAny_bind (wpAny_pure ?_) | skip
  refine wpAny_bind (wpAny_sequenceKey ht.typeIs (by decide) ?_)
  refine wpAny_bind (wpAny_callSpecial?_slot (name := Str.ofString "__getitem__") ht.typeIs PyProof.Rows.slot_tuple_getitem
    (wpAny_call_entry PyProof.Rows.slot_tuple_getitem ht.typeIs entry_tuple_getitem ?_ (args_tuple_getitem _ _)))
  show wpAny _ _ (Builtin.Tuple.tupleItemsOf (.ref t) >>= _) _ _ s
  refine wpAny_bind (tupleItemsOf_ ht ?_)
  refine wpAny_bind (wpAny_typeOf hTs ?_)
  rw [if_pos (by decide)]
  refine wpAny_bind (sliceApplied_rev hs pl pu ps ?_)
  have hno : ¬ ((((items.size : Int) - 1) == 0 && (-1 : Int) == 1 && items.size == items.size) = true) := by
    intro q
    rw [Bool.and_eq_true, Bool.and_eq_true] at q
    exact absurd q.1.2 (by decide)
  show wpAny _ _ (if (((items.size : Int) - 1) == 0 && (-1 : Int) == 1 && items.size == items.size) = true then _ else _) _ _ s
  rw [if_neg hno, pick_rev]
  first
    | exact wpAny_bind (m := Builtin.Tuple.tupleExact _) (wpAny_newObj_type (wpAny_pure ⟨_, rfl, wpAny_pure h⟩) htake)
    | exact wpAny_bind (m := Builtin.Tuple.tupleExact _) (wpAny_newObj_type (wpAny_bind (wpAny_pure (wpAny_pure ⟨_, rfl, wpAny_pure h⟩))) htake)
    | exact wpAny_bind (wpAny_bind (m := Builtin.Tuple.tupleExact _) (wpAny_newObj_type (wpAny_pure (wpAny_pure ⟨_, rfl, wpAny_pure h⟩)) htake))
    | exact wpAny_bind (wpAny_bind (m := Builtin.Tuple.tupleExact _) (wpAny_newObj_type (wpAny_pure ⟨_, rfl, wpAny_pure h⟩) htake))
end
end HT
namespace Dv
open PySem PySem.Spec PyProof.Rows L2
set_option autoImplicit false
/-! ### x[::-1] -/
def tRev2 (K : PySem.W.Frag) (te : TE) : TE := fun σ H Q => te σ H fun x H1 => ∃ a xs, x = .ref a ∧ ((SqL K H1 a xs ∧ ∀ p, H1 p = none → Q (.ref p) (upd H1 p (.lst xs.reverse))) ∨ (SqT K H1 a xs ∧ ∀ p, H1 p = none → Q (.ref p) (upd H1 p (.tup xs.reverse))))
theorem pe_rev2 {X : Cx} {e : Expr} {te : TE} {k : Nat} {p1 p2 p3 pos : Pos} (he : PE X e te) : PE X (.Subscript e (.Slice none none (some (.UnaryOp .USub (.Constant (.int 1) k p1) p2)) p3) pos) (tRev2 X.K te) := by
  refine ⟨fun pins s σ H Q I h => ?_⟩
  refine Subscript_ (thn (he.run pins s σ H _ I h) fun v s1 ⟨x, H1, I1, r1, q1⟩ => ?_)
  obtain ⟨a, xs, ex, q⟩ := q1
  subst ex
  cases r1
  have hst : PO X (some (.UnaryOp .USub (.Constant (.int 1) k p1) p2)) (tPart (tUn (rU fun i => .int (-i)) (tC (.int 1)))) := po_some (pe_un un_neg pe_int)
  refine wpAny_Slice (thn (po_none.run pins s1 σ H1 (fun o H2 => o = none ∧ H2 = H1) I1 ⟨rfl, rfl⟩) fun vl s2 ⟨l, H2, I2, pl, el, e2⟩ => ?_)
  subst el e2
  refine thn (po_none.run pins s2 σ H2 (fun o H3 => o = none ∧ H3 = H2) I2 ⟨rfl, rfl⟩) fun vu s3 ⟨u, H3, I3, pu, eu, e3⟩ => ?_
  subst eu e3
  refine thn (hst.run pins s3 σ H3 (fun o H4 => o = some (-1) ∧ H4 = H3) I3 ⟨1, rfl, -1, rfl, rfl, rfl⟩) fun vs s4 ⟨o, H4, I4, ps, eo, e4⟩ => ?_
  subst eo e4
  have I5 : Inv X pins σ H4 { s4 with heap := s4.heap.push { cls := .type "slice", data := .fields #[vl, vu, vs] } } := I4.kept (t' := s4.toks) fun b ob q => Heap.get?_push_of_some _ q
  show wpAny (model X.prog X.w) X.A (subscriptTail e (.Slice none none (some (.UnaryOp .USub (.Constant (.int 1) k p1) p2)) p3) (.ref a) (.ref s4.heap.objs.size)) (EP X pins σ Q) X.xe { s4 with heap := s4.heap.push { cls := .type "slice", data := .fields #[vl, vu, vs] } }
  rcases q with ⟨hx, q⟩ | ⟨hx, q⟩
  · obtain ⟨its, r, ht, hz⟩ := I5.list hx
    have hlen := r.length
    refine tail_any (ops := [.ref a, .ref s4.heap.objs.size]) ht.isList.typeIs (PySem.slot_list_getitem.lookup) ?_ (by with_unfolding_all rfl)
    refine wpAny_getItem_list_slice ht.isList (Heap.IsSliceOf.new _ vl vu vs) pl pu ps (by decide) ?_ (by rw [List.size_toArray]; omega)
    rw [PySem.W.krv_pick]
    refine ⟨.ref _, _, I5.laid (t' := s4.toks) (o := .lst xs.reverse) (fun b ob q => Heap.get?_push_of_some _ q) (Nat.le_refl _) ?_, rfl, q _ (I5.hok.fresh (Nat.le_refl _))⟩
    exact ⟨by rw [List.length_reverse]; exact hz, _, 0, r.reverse, Heap.get?_push_size _ rfl⟩
  · obtain ⟨its, r, ht, hz⟩ := I5.tuple hx
    have hlen := r.length
    refine tail_any (ops := [.ref a, .ref s4.heap.objs.size]) ht.typeIs (PyProof.Rows.slot_tuple_getitem.lookup) ?_ (by with_unfolding_all rfl)
    refine HT.getItem_tuple_rev ht (Heap.IsSliceOf.new _ vl vu vs) pl pu ps ?_ (by rw [List.size_toArray]; omega)
    refine ⟨.ref _, _, I5.laid (t' := s4.toks) (o := .tup xs.reverse) (fun b ob q => Heap.get?_push_of_some _ q) (Nat.le_refl _) ?_, rfl, q _ (I5.hok.fresh (Nat.le_refl _))⟩
    exact ⟨by rw [List.length_reverse]; exact hz, _, r.reverse, IsTup.new _ _⟩
def dRev (S : Store) (d : D) : Option D := match vw S d with
  | .tup xs => some (.tup xs.reverse)
  | .lst _ xs => some (.lst true xs.reverse)
  | .rol xs => some (.lst true xs.reverse)
  | _ => none
def mRev (m : ME) : ME := fun ρ S => (m ρ S).bind fun d S1 => opt (dRev S1 d) S1
section
variable {s : Sit}
theorem se_rev {e : Expr} {m : ME} {k : Nat} {p1 p2 p3 pos : Pos} (he : SE s e m) : SE s (.Subscript e (.Slice none none (some (.UnaryOp .USub (.Constant (.int 1) k p1) p2)) p3) pos) (mRev m) := by
  refine PE.weak (pe_rev2 he) fun σ H Q q => ?_
  obtain ⟨ρ, S, A, c, q⟩ := q
  refine tD_bind c q fun d S1 v H1 _ p1 c1 r1 _ q1 => ?_
  have q2 := q1.on c.cells p1
  cases hf : dRev S1 d with
  | none => rw [hf] at q2; exact q2.elim
  | some x =>
    rw [hf] at q2
    have q4 := fin_opt c1.cells q2
    unfold dRev at hf
    split at hf
    · rename_i ys e
      cases hf
      obtain ⟨a, xs, rfl, h3, h4⟩ := (r1.as c1.cells e).tup
      exact ⟨a, xs, rfl, .inr ⟨h3, new_tup c1.cells h4.reverse q4⟩⟩
    · rename_i f ys e
      cases hf
      obtain ⟨a, xs, rfl, h3, h4⟩ := (r1.as c1.cells e).lst
      exact ⟨a, xs, rfl, .inl ⟨.of h3, new_lst c1.cells h4.reverse q4⟩⟩
    · rename_i ys e
      cases hf
      obtain ⟨a, xs, rfl, h3, h4⟩ := (r1.as c1.cells e).list rfl
      exact ⟨a, xs, rfl, .inl ⟨h3, new_lst c1.cells h4.reverse q4⟩⟩
    · cases hf
/-! ### {} -/
def mDct0 : ME := fun _ S => .ok (.dct true []) S
theorem se_dct0 {pos : Pos} : SE s (.Dict [] [] pos) mDct0 := PE.weak pe_dnewK fun σ H Q q => by
  obtain ⟨ρ, S, A, c, q⟩ := q
  intro p hp
  have sm := same_upd (o := .dK []) hp
  exact q (.ref p) _ (.of_same c.cells sm) (.inr (.inl (.dct (own_some c.cells hp) upd_same .nil))) (.mk c.cells sm hp (.dct upd_same .nil))
/-! ### tuple(range(..)), list(range(..)) -/
def RgO (s : Sit) (A : Wy) (S : Store) (H : Hp) (σ : L2.St) (Q : Int → Int → Hp → Prop) : Res (Int × Int) → Prop
  | .ok d S' => ∀ H', Pst s.X.K A S H S' H' → Q d.1 d.2 H'
  | .exc c fs S' => ∀ dd H', Pst s.X.K A S H S' H' → ExAt s.X.K H' (Own A S') c dd fs → s.W (.ref (s.cad c)) dd σ H'
  | .bad => False
def tDr (s : Sit) (m : Rho → Store → Res (Int × Int)) : L2.St → Hp → (Int → Int → Hp → Prop) → Prop := fun σ H Q => ∃ ρ S A, Cn s ρ S A σ H ∧ RgO s A S H σ Q (m ρ S)
def SR (s : Sit) (e : Expr) (m : Rho → Store → Res (Int × Int)) : Prop := PRg s.X e (tDr s m)
def mRg1 (m : ME) : Rho → Store → Res (Int × Int) := fun ρ S => (m ρ S).bind fun d S1 => match d with
  | .int n => .ok (0, n) S1
  | _ => .bad
def mRg2 (m n : ME) : Rho → Store → Res (Int × Int) := fun ρ S => (m ρ S).bind fun d S1 => (n ρ S1).bind fun e S2 => match d, e with
  | .int i, .int j => .ok (i, j) S2
  | _, _ => .bad
theorem PRg.weak {X : Cx} {e : Expr} {t t' : L2.St → Hp → (Int → Int → Hp → Prop) → Prop} (h : PRg X e t) (w : ∀ σ H Q, t' σ H Q → t σ H Q) : PRg X e t' := fun pins s σ H Q I q => h pins s σ H Q I (w _ _ _ q)
theorem sr_1 {a : Expr} {m : ME} {p pos : Pos} (hg : Gl s.X "range") (hm : s.X.mg "range" = none) (ha : SE s a m) (na : starEach [a] s.X.env = (false, eval a s.X.env) :: starEach [] s.X.env := by rfl) : SR s (.Call (.Name "range" p) [a] [] pos) (mRg1 m) :=
  PRg.weak (prg_1 hg hm ha na) fun σ H Q q => by
    obtain ⟨ρ, S, A, c, q⟩ := q
    refine ⟨ρ, S, A, c, ?_⟩
    unfold mRg1 at q
    cases e : m ρ S with
    | exc x fs S1 => rw [e] at q; exact q
    | bad => rw [e] at q; exact q
    | ok d S1 =>
      rw [e] at q
      intro v H1 p r f
      cases d with
      | int n => exact ⟨n, int_of r, q H1 p⟩
      | _ => exact q.elim
theorem sr_2 {a b : Expr} {m n : ME} {p pos : Pos} (hg : Gl s.X "range") (hm : s.X.mg "range" = none) (ha : SE s a m) (hb : SE s b n) (na : starEach [a, b] s.X.env = (false, eval a s.X.env) :: starEach [b] s.X.env := by rfl)
    (nb : starEach [b] s.X.env = (false, eval b s.X.env) :: starEach [] s.X.env := by rfl) (hp : (backTo pos (starEach [b] s.X.env)).any (·.1) = false := by rfl) : SR s (.Call (.Name "range" p) [a, b] [] pos) (mRg2 m n) :=
  PRg.weak (prg_2 hg hm ha hb na nb hp) fun σ H Q q => by
    obtain ⟨ρ, S, A, c, q⟩ := q
    refine ⟨ρ, S, A, c, ?_⟩
    unfold mRg2 at q
    cases e : m ρ S with
    | exc x fs S1 => rw [e] at q; exact q
    | bad => rw [e] at q; exact q
    | ok d S1 =>
      rw [e] at q
      intro v H1 p r f
      have c1 := c.step p
      refine ⟨ρ, S1, A, c1, ?_⟩
      dsimp only [bind_ok] at q
      cases e2 : n ρ S1 with
      | exc x fs S2 => rw [e2] at q; intro dd H2 p2 z; exact q dd H2 (p.trans p2) z
      | bad => rw [e2] at q; exact q
      | ok d2 S2 =>
        rw [e2] at q
        intro v2 H2 p2 r2 f2
        cases d with
        | int i =>
          cases d2 with
          | int j => exact ⟨i, j, int_of r, int_of r2, q H2 (p.trans p2)⟩
          | _ => exact q.elim
        | _ => exact q.elim
def rgD (i j : Int) : List D := (List.range (j - i).toNat).map fun k => D.int (i + (k : Nat))
def rgFine (i j : Int) : Bool := decide (i ≤ 16777216 ∧ -16777216 ≤ i ∧ j ≤ 16777216 ∧ -16777216 ≤ j ∧ j - i ≤ 16777216)
def mTupRg (m : Rho → Store → Res (Int × Int)) : ME := fun ρ S => (m ρ S).bind fun d S1 => if rgFine d.1 d.2 then .ok (.tup (rgD d.1 d.2)) S1 else .bad
def mLstRg (m : Rho → Store → Res (Int × Int)) : ME := fun ρ S => (m ρ S).bind fun d S1 => if rgFine d.1 d.2 then .ok (.lst true (rgD d.1 d.2)) S1 else .bad
theorem rgFine_ok {i j : Int} (h : rgFine i j = true) : RgOk i j := by
  unfold rgFine at h
  have h := of_decide_eq_true h
  exact ⟨by omega, by omega, by omega, by omega, by omega⟩
theorem rgV_rp {K : PySem.W.Frag} {H : Hp} {O : Ow} (i j : Int) : RpAll K H O (rgV i j) (rgD i j) := by
  unfold rgV rgD
  generalize List.range (j - i).toNat = l
  induction l with
  | nil => exact .nil
  | cons x xs ih => exact .cons (.int _) ih
theorem rg_red {m : Rho → Store → Res (Int × Int)} {k : Int × Int → Store → Res D} {σ : L2.St} {H : Hp} {Q : VK} {R : Int → Int → Hp → Prop} {ρ : Rho} {S : Store} {A : Wy} (c : Cn s ρ S A σ H) (q : EOut s A S H σ Q ((m ρ S).bind k))
    (go : ∀ d S1 H1, Pst s.X.K A S H S1 H1 → Cn s ρ S1 A σ H1 → EOut s A S1 H1 σ Q (k d S1) → R d.1 d.2 H1) : tDr s m σ H R := by
  refine ⟨ρ, S, A, c, ?_⟩
  cases e : m ρ S with
  | exc x fs S1 => rw [e] at q; exact q
  | bad => rw [e] at q; exact q
  | ok d S1 => rw [e] at q; intro H1 p; exact go d S1 H1 p (c.step p) (q.on c.cells p)
theorem se_tupRg {e : Expr} {m : Rho → Store → Res (Int × Int)} {p pos : Pos} (hc : s.X.calm = true) (hg : Gl s.X "tuple") (hm : s.X.mg "tuple" = none) (he : SR s e m) (na : starEach [e] s.X.env = (false, eval e s.X.env) :: starEach [] s.X.env := by rfl) : SE s (.Call (.Name "tuple" p) [e] [] pos) (mTupRg m) :=
  PE.weak (pe_tupRg hc hg hm he na) fun σ H Q q => by
    obtain ⟨ρ, S, A, c, q⟩ := q
    refine rg_red (R := fun a b H1 => RgOk a b ∧ ∀ q, H1 q = none → Q (.ref q) (upd H1 q (.tup (rgV a b)))) c q fun d S1 H1 p1 c1 q1 => ?_
    split at q1
    · rename_i h
      exact ⟨rgFine_ok h, new_tup c1.cells (rgV_rp _ _) (fin_opt (x := .tup (rgD d.1 d.2)) c1.cells q1)⟩
    · exact q1.elim
theorem se_lstRg {e : Expr} {m : Rho → Store → Res (Int × Int)} {p pos : Pos} (hc : s.X.calm = true) (hg : Gl s.X "list") (hm : s.X.mg "list" = none) (he : SR s e m) (na : starEach [e] s.X.env = (false, eval e s.X.env) :: starEach [] s.X.env := by rfl) : SE s (.Call (.Name "list" p) [e] [] pos) (mLstRg m) :=
  PE.weak (pe_listRg hc hg hm he na) fun σ H Q q => by
    obtain ⟨ρ, S, A, c, q⟩ := q
    refine rg_red (R := fun a b H1 => RgOk a b ∧ ∀ q, H1 q = none → Q (.ref q) (upd H1 q (.lst (rgV a b)))) c q fun d S1 H1 p1 c1 q1 => ?_
    split at q1
    · rename_i h
      exact ⟨rgFine_ok h, new_lst c1.cells (rgV_rp _ _) (fin_opt (x := .lst true (rgD d.1 d.2)) c1.cells q1)⟩
    · exact q1.elim
/-! ### repr(x), x a list or a tuple -/
def isDisp : PyData → Bool
  | .list _ => true
  | .tuple _ => true
  | _ => false
def showOk (p : PyData) : Bool := isDisp p && p.showable && !p.hasDict && decide (p.depth ≤ 60) && decide (p.shown.length ≤ LINE)
def cRepr (S : Store) (ds : List D) : Option D := match ds with
  | [d] => match toPy (vw S d) with
    | some p => if showOk p then some (.str p.shown) else none
    | none => none
  | _ => none
def rRepr (K : PySem.W.Frag) : List V → Hp → VK → Prop := fun xs H Q => ∃ x p, xs = [x] ∧ Dp K H x p ∧ showOk p = true ∧ Q (.str p.shown) H
theorem call_repr {X : Cx} (hg : X.A.guards = some []) (hu : X.A.units + 65 < cLine) : CallR X (.builtin "repr") (rRepr X.K) := by
  intro pins s σ H xs us Q I r h
  obtain ⟨x, p, rfl, hd, hs, q⟩ := h
  simp only [showOk, Bool.and_eq_true, decide_eq_true_eq, Bool.not_eq_true'] at hs
  obtain ⟨⟨⟨⟨h1, h2⟩, h3⟩, h4⟩, h5⟩ := hs
  cases r with
  | cons rx rt =>
    cases rt
    rename_i u
    obtain ⟨as, r1⟩ := Dp.reads I p x u hd rx
    have hr : ∃ a, u = .ref a := by
      cases p with
      | list _ => cases r1 with | list _ _ _ _ => exact ⟨_, rfl⟩
      | tuple _ => cases r1 with | tuple _ _ _ _ => exact ⟨_, rfl⟩
      | _ => cases h1
    obtain ⟨a, rfl⟩ := hr
    refine repr_of_reads' r1 h2 (PyData.noDict_hsm h3) hg (by omega) (fun _ _ e => e) (fun h' u tk hk => ?_) (by rw [line_eq]; exact h5)
    exact ⟨.str p.shown, H, I.kept hk, ⟨_, rfl⟩, q⟩
theorem sem_repr : CallSem s cRepr (rRepr s.X.K) := by
  intro A S H vs ds x Q c r hf q
  unfold cRepr at hf
  split at hf
  · rename_i d
    split at hf
    · rename_i p hp
      split at hf
      · rename_i hs
        cases hf
        obtain ⟨v, rfl, rr⟩ := r.one
        have n : ∀ k fs, vw S d ≠ .err k fs := fun k fs z => by rw [z] at hp; simp [toPy] at hp
        exact ⟨v, p, rfl, (rr.seen c n).dp hp, hs, old_of (.str _) rfl q⟩
      · cases hf
    · cases hf
  · cases hf
end
end Dv

namespace Dv
open PySem PySem.Spec PyProof.Rows L2
set_option autoImplicit false
/-! ### sorting ints -/
def uins (k : Int) : List Int → List Int
  | [] => [k]
  | x :: xs => if k < x then k :: x :: xs else if k = x then x :: xs else x :: uins k xs
def usort : List Int → List Int
  | [] => []
  | x :: xs => uins x (usort xs)
theorem mem_uins {k j : Int} : ∀ {xs : List Int}, j ∈ uins k xs ↔ j = k ∨ j ∈ xs
  | [] => by simp [uins]
  | x :: xs => by
    unfold uins
    split
    · simp
    · split
      · rename_i h; subst h; simp
      · simp only [List.mem_cons, mem_uins (xs := xs)]
        constructor
        · rintro (h | h | h) <;> simp [h]
        · rintro (h | h | h) <;> simp [h]
theorem mem_usort {j : Int} : ∀ {xs : List Int}, j ∈ usort xs ↔ j ∈ xs
  | [] => by simp [usort]
  | x :: xs => by simp [usort, mem_uins, mem_usort (xs := xs)]
theorem pw_uins {k : Int} : ∀ {xs : List Int}, xs.Pairwise (· < ·) → (uins k xs).Pairwise (· < ·)
  | [], _ => by simp [uins]
  | x :: xs, h => by
    rw [List.pairwise_cons] at h
    unfold uins
    split
    · rename_i hk
      refine List.pairwise_cons.mpr ⟨fun y hy => ?_, List.pairwise_cons.mpr h⟩
      rcases List.mem_cons.mp hy with e | hy
      · rw [e]; exact hk
      · have := h.1 y hy; omega
    · split
      · exact List.pairwise_cons.mpr h
      · refine List.pairwise_cons.mpr ⟨fun y hy => ?_, pw_uins h.2⟩
        rcases mem_uins.mp hy with e | hy
        · omega
        · exact h.1 y hy
theorem pw_usort : ∀ xs : List Int, (usort xs).Pairwise (· < ·)
  | [] => by simp [usort]
  | x :: xs => pw_uins (pw_usort xs)
/-- strictly ascending lists of the same members are the same -/
theorem asc_eq : ∀ {xs ys : List Int}, xs.Pairwise (· < ·) → ys.Pairwise (· < ·) → (∀ k, k ∈ xs ↔ k ∈ ys) → xs = ys
  | [], [], _, _, _ => rfl
  | [], y :: ys, _, _, h => by have := (h y).mpr (by simp); simp at this
  | x :: xs, [], _, _, h => by have := (h x).mp (by simp); simp at this
  | x :: xs, y :: ys, h1, h2, h => by
    rw [List.pairwise_cons] at h1 h2
    have e : x = y := by
      have a := (h x).mp (by simp)
      have b := (h y).mpr (by simp)
      rcases List.mem_cons.mp a with a | a
      · exact a
      · rcases List.mem_cons.mp b with b | b
        · exact b.symm
        · have := h1.1 y b; have := h2.1 x a; omega
    subst e
    refine congrArg _ (asc_eq h1.2 h2.2 fun k => ?_)
    constructor
    · intro hk
      rcases List.mem_cons.mp ((h k).mp (List.mem_cons_of_mem _ hk)) with e | z
      · have := h1.1 k hk; omega
      · exact z
    · intro hk
      rcases List.mem_cons.mp ((h k).mpr (List.mem_cons_of_mem _ hk)) with e | z
      · have := h2.1 k hk; omega
      · exact z
theorem asc_nodup {xs : List Int} (h : xs.Pairwise (· < ·)) : xs.Nodup := h.imp fun h => by omega
/-- with repetitions -/
def oins (k : Int) : List Int → List Int
  | [] => [k]
  | x :: xs => if k ≤ x then k :: x :: xs else x :: oins k xs
def osort : List Int → List Int
  | [] => []
  | x :: xs => oins x (osort xs)
theorem perm_oins {k : Int} : ∀ {xs : List Int}, (oins k xs).Perm (k :: xs)
  | [] => .refl _
  | x :: xs => by
    unfold oins
    split
    · exact .refl _
    · exact (perm_oins.cons x).trans (.swap k x xs)
theorem perm_osort : ∀ {xs : List Int}, (osort xs).Perm xs
  | [] => .refl _
  | x :: xs => perm_oins.trans (perm_osort.cons x)
theorem pw_oins {k : Int} : ∀ {xs : List Int}, xs.Pairwise (· ≤ ·) → (oins k xs).Pairwise (· ≤ ·)
  | [], _ => by simp [oins]
  | x :: xs, h => by
    rw [List.pairwise_cons] at h
    unfold oins
    split
    · rename_i hk
      refine List.pairwise_cons.mpr ⟨fun y hy => ?_, List.pairwise_cons.mpr h⟩
      rcases List.mem_cons.mp hy with e | hy
      · rw [e]; exact hk
      · have := h.1 y hy; omega
    · refine List.pairwise_cons.mpr ⟨fun y hy => ?_, pw_oins h.2⟩
      rcases List.mem_cons.mp (perm_oins.mem_iff.mp hy) with e | hy
      · omega
      · exact h.1 y hy
theorem pw_osort : ∀ xs : List Int, (osort xs).Pairwise (· ≤ ·)
  | [] => by simp [osort]
  | x :: xs => pw_oins (pw_osort xs)
theorem ord_eq : ∀ {xs ys : List Int}, xs.Pairwise (· ≤ ·) → ys.Pairwise (· ≤ ·) → xs.Perm ys → xs = ys
  | [], ys, _, _, h => h.nil_eq
  | x :: xs, [], _, _, h => by have := h.length_eq; simp at this
  | x :: xs, y :: ys, h1, h2, h => by
    have q1 := List.pairwise_cons.mp h1
    have q2 := List.pairwise_cons.mp h2
    have e : x = y := by
      have a := h.mem_iff.mp (List.mem_cons_self (a := x))
      have b := h.mem_iff.mpr (List.mem_cons_self (a := y))
      rcases List.mem_cons.mp a with a | a
      · exact a
      · rcases List.mem_cons.mp b with b | b
        · exact b.symm
        · have := q1.1 y b; have := q2.1 x a; omega
    subst e
    exact congrArg _ (ord_eq q1.2 q2.2 (List.Perm.cons_inv h))
def cSortI (S : Store) (ds : List D) : Option D := ((listArg S ds).bind intsOf).map fun ns => .lst true ((osort ns).map .int)
section
variable {s : Sit}
theorem sem_sortI : CallSem s cSortI (rSortedI s.X.K) := by
  intro A S H vs ds x Q c r hf q
  simp only [cSortI, Option.map_eq_some_iff, Option.bind_eq_some_iff] at hf
  obtain ⟨ns, ⟨xs, h1, h2⟩, rfl⟩ := hf
  obtain ⟨a, ys, rfl, h3, h4⟩ := listArg_ok c r h1
  rw [intsOf_eq h2] at h4
  rw [h4.ints] at h3
  refine ⟨a, ns, rfl, h3, fun ns' p pm pw hp => ?_⟩
  rw [ord_eq pw (pw_osort ns) (pm.trans perm_osort.symm)]
  exact new_lst c (rpAll_ints (osort ns)) q p hp
/-! ### sorted(set(t)) -/
def tSortSetT (K : PySem.W.Frag) (ta : TE) : TE := fun σ H Q => ta σ H fun x H1 => ∃ (l : Addr) (ns : List Int), x = V.ref l ∧ SqT K H1 l (ns.map V.int) ∧ ns.length ≤ 1000 ∧ (usort ns).length < 64 ∧ ∀ p, H1 p = none → Q (.ref p) (upd H1 p (.lst ((usort ns).map V.int)))
theorem sorted_at {X : Cx} (hc : X.calm = true) {pins : List (Addr × Obj)} {σ : L2.St} {H1 : Hp} {sA : Shared} {l : Addr} {c : Nat} {S : Int → Bool} {ns : List Int} {Q : VK} (I2 : Inv X pins σ H1 sA) (R : SetR X.w sA.heap l S c) (hc64 : c < 64) (hS : ∀ k, S k = true ↔ k ∈ ns)
    (q1 : ∀ p, H1 p = none → Q (.ref p) (upd H1 p (.lst ((usort ns).map V.int)))) : wpAny (model X.prog X.w) X.A (call (.builtin "sorted") [.ref l]) (EP X pins σ Q) X.xe sA := by
  refine sorted_set (w := X.w) R (I2.ok.hd hc) hc64 fun s' p out cc ns' kk gg oo hp hget hi pw hmem hl => ?_
  have e : ns' = usort ns := asc_eq pw (pw_usort ns) fun j => by rw [hmem j, mem_usort, hS j]
  subst e
  have hlen : ((usort ns).map V.int).length ≤ sizeLine := by rw [List.length_map, sizeLine_eq]; omega
  have hn : H1 p = none := I2.hok.fresh hp
  have J : Inv X pins σ (upd H1 p (.lst ((usort ns).map V.int))) { sA with heap := s'.heap, gens := s'.gens, drawn := s'.drawn, toks := s'.toks } :=
    I2.call (ch := []) (Un.laid kk hp hn) (I2.hok.laid kk hp ⟨hlen, out.toList, cc, vals_of_ints hi, hget⟩) (by rw [gg]; exact I2.bare) (fun _ z => nomatch z)
  have e2 : s' = { sA with heap := s'.heap, gens := s'.gens, drawn := s'.drawn, toks := s'.toks } := by
    cases s'
    cases sA
    cases oo
    rfl
  rw [e2]
  exact ⟨.ref p, _, J, rfl, q1 p hn⟩
theorem pe_sortSetT {X : Cx} {a : Expr} {ta : TE} {p p2 q pos : Pos} (hc : X.calm = true) (hg : Gl X "sorted") (hm : X.mg "sorted" = none) (hg2 : Gl X "set") (hm2 : X.mg "set" = none) (ha : PE X a ta)
    (na : starEach [a] X.env = (false, eval a X.env) :: starEach [] X.env := by rfl) : PE X (.Call (.Name "sorted" p) [.Call (.Name "set" p2) [a] [] q] [] pos) (tSortSetT X.K ta) := by
  refine ⟨fun pins s σ H Q I h => ?_⟩
  refine Call_ (ld_blt I hg hm PyProof.Rows.boot_sorted ?_)
  refine PyProof.Rows.callWith_builtin1 (PyProof.Rows.args_cons ?_ rfl) rfl rfl
  refine Call_ (ld_blt I hg2 hm2 PyProof.Rows.boot_set ?_)
  refine PyProof.Rows.callWith_type1 (PyProof.Rows.args_cons (thn (ha.run pins s σ H _ I h) fun v s1 ⟨x, H1, I1, r1, q1⟩ => PyProof.Rows.args_nil ?_) na) na rfl
  obtain ⟨l, ns, rfl, hq, h1, h64, q1⟩ := q1
  cases r1
  obtain ⟨its, rv, pt, hz⟩ := I1.tuple hq
  refine call_set_tupI ns (I1.ok.hd hc) (show s1.heap.IsTuple l its.toArray from pt) (ints_of_vals rv) (by unfold scanBound; omega) fun h' tk c R hcn k => ?_
  refine PyProof.Rows.args_nil ?_
  have I2 : Inv X pins σ H1 { s1 with heap := h', toks := tk } := I1.kept k
  have hc64 : c < 64 := by
    obtain ⟨o, es, ep, t, ho, hex, hd, g, nd, hmem, hb, hf, hn, hr, hl⟩ := R
    have pm : (es.toList.map keyOf).Perm (usort ns) := (List.perm_ext_iff_of_nodup nd (asc_nodup (pw_usort ns))).mpr fun j => by
      rw [← hmem j, mem_usort]; simp
    have := pm.length_eq
    rw [List.length_map, Array.length_toList] at this
    omega
  exact sorted_at hc I2 R hc64 (fun k => by simp) q1
def mSortSetT (m : ME) : ME := fun ρ S => (m ρ S).bind fun d S1 => match vw S1 d with
  | .tup xs => match intsOf xs with
    | some ns => if decide (ns.length ≤ 1000) && decide ((usort ns).length < 64) then .ok (.lst true ((usort ns).map .int)) S1 else .bad
    | none => .bad
  | _ => .bad
theorem se_sortSetT {a : Expr} {m : ME} {p p2 q pos : Pos} (hc : s.X.calm = true) (hg : Gl s.X "sorted") (hm : s.X.mg "sorted" = none) (hg2 : Gl s.X "set") (hm2 : s.X.mg "set" = none) (ha : SE s a m)
    (na : starEach [a] s.X.env = (false, eval a s.X.env) :: starEach [] s.X.env := by rfl) : SE s (.Call (.Name "sorted" p) [.Call (.Name "set" p2) [a] [] q] [] pos) (mSortSetT m) := by
  refine PE.weak (pe_sortSetT hc hg hm hg2 hm2 ha na) fun σ H Q q => ?_
  obtain ⟨ρ, S, A, c, q⟩ := q
  refine tD_bind c q fun d S1 v H1 _ p1 c1 r1 _ q1 => ?_
  have q2 := q1.on c.cells p1
  split at q2
  · rename_i ys e
    split at q2
    · rename_i ns hi
      split at q2
      · rename_i hp
        simp only [Bool.and_eq_true, decide_eq_true_eq] at hp
        obtain ⟨a, xs, rfl, h3, h4⟩ := (r1.as c1.cells e).tup
        rw [intsOf_eq hi] at h4
        rw [h4.ints] at h3
        exact ⟨a, ns, rfl, h3, hp.1, hp.2, new_lst c1.cells (rpAll_ints (usort ns)) (fin_opt (x := .lst true ((usort ns).map .int)) c1.cells q2)⟩
      · exact q2.elim
    · exact q2.elim
  · exact q2.elim
end
end Dv

namespace Dv
open PySem PySem.Spec PyProof.Rows L2
set_option autoImplicit false
/-! ### a, b = e1, e2 -/
def mPar (base i j : Nat) (oj : Bool) (m n : ME) : MS := fun ρ S => bindE (m ρ S) ρ fun d S1 => bindE (n ρ S1) ρ fun e S2 => match holdV base i d ρ S2 with
  | .nx ρ1 S3 => if oj then holdO base j e ρ1 S3 else holdV base j e ρ1 S3
  | r => r
section
variable {s : Sit} {m n : ME}
theorem holdV_cases {base i : Nat} {d : D} {ρ : Rho} {S : Store} : holdV base i d ρ S = .bad ∨ ∃ d', holdV base i d ρ S = .nx (ρ.set i (some d')) S ∧ ((plain d = true ∧ d' = cool d) ∨ ∃ n, d = .loc n ∧ d' = .loc n ∧ n < base) := by
  by_cases hp : plain d = true
  · exact .inr ⟨cool d, holdV_plain hp, .inl ⟨hp, rfl⟩⟩
  · cases d with
    | loc n =>
      unfold holdV
      dsimp only
      split
      · exact .inr ⟨.loc n, rfl, .inr ⟨n, rfl, rfl, ‹_›⟩⟩
      · exact .inl rfl
    | err _ _ => exact .inl rfl
    | _ => exact absurd rfl hp
theorem par_red {i j : Nat} {oj : Bool} {D : Ends} {σ : L2.St} {H : Hp} (q : tDs s (mPar s.base i j oj m n) D σ H) : tD s m σ H fun x H1 => tD s n σ H1 fun y H2 => D.nx ((σ.set i (some x)).set j (some y)) H2 := by
  obtain ⟨ρ, S, A, c, q⟩ := q
  refine tD_bindS c q fun d S1 v H1 _ p1 c1 r1 _ q1 => ?_
  refine ⟨ρ, S1, A, c1, ?_⟩
  cases e : n ρ S1 with
  | exc x fs S2 => rw [e] at q1; intro dd H2 p z; exact q1 dd σ H2 A (p.pss c1.cells) (c1.step p) z
  | bad => rw [e] at q1; exact q1
  | ok d2 S2 =>
    rw [e] at q1
    dsimp only [bindE_ok] at q1
    intro w H2 p2 r2 f2
    have c2 := c1.step p2
    have r1' := r1.step c1.cells p2
    rcases holdV_cases (base := s.base) (i := i) (d := d) (ρ := ρ) (S := S2) with hb | ⟨d', hb, hd⟩
    · rw [hb] at q1; exact q1.elim
    · rw [hb] at q1
      dsimp only at q1
      have rd' : RpS s.X.K s.Z A S1 H1 v d' := by
        rcases hd with ⟨hp, rfl⟩ | ⟨k, rfl, rfl, hk⟩
        · exact r1.cool hp
        · exact r1
      have c1' : Cn s (ρ.set i (some d')) S1 A (σ.set i (some v)) H1 := c1.setv rd' fun k z => by
        rcases hd with ⟨hp, rfl⟩ | ⟨k', rfl, rfl, hk⟩
        · exact absurd z (cool_loc hp)
        · cases z; exact .inl hk
      cases oj with
      | true => exact holdO_go c1' p2 r2 f2 q1
      | false => exact holdV_go (c1'.step p2) r2 (SOut.on (p2.pss c1.cells) q1)
variable {a b : Expr} {i j : Nat} {oj : Bool} {x y : Str} {px py pt pos : Pos} {kt k2 : Nat} {pt2 : Pos}
theorem s_par (hc : s.X.calm = true) (hN : s.X.N.Nodup) (hi : s.X.N[i]? = some x) (hj : s.X.N[j]? = some y) (hij : i ≠ j)
    (hx : s.X.env.scope.names.lookup x = some .local) (hy : s.X.env.scope.names.lookup y = some .local) (ha : SE s a m) (hb : SE s b n)
    (hw : swappedStores [.Tuple [.Name x px, .Name y py] kt pt] (.Tuple [a, b] k2 pt2) s.X.env = pure (some [x, y]))
    (hs : swapsWithSole [.Tuple [.Name x px, .Name y py] kt pt] (.Tuple [a, b] k2 pt2) pos.line s.X.env = pure false := by rfl)
    (h1 : starEach [a, b] s.X.env = (false, eval a s.X.env) :: starEach [b] s.X.env := by rfl) (h2 : starEach [b] s.X.env = (false, eval b s.X.env) :: starEach [] s.X.env := by rfl) :
    SS s (.Assign [.Tuple [.Name x px, .Name y py] kt pt] (.Tuple [a, b] k2 pt2) pos) (mPar s.base i j oj m n) :=
  PS.weak (ps_par hc hN hi hj hij hx hy (pa_cons ha (pa_cons hb pa_nil h2) h1) hw hs) fun D σ H q =>
    tD_mono (fun v H1 h => tD_mono (fun w H2 h => ⟨v, w, rfl, h⟩) h) (par_red q)
/-- target = e, the target's names hold values -/
def mAsg (t : Tg) (m : ME) : MS := fun ρ S => bindE (m ρ S) ρ fun d S1 => if plain d then (match t (cool d) ρ with
  | some ρ' => .nx ρ' S1
  | none => .bad) else .bad
theorem s_asgT {tg e : Expr} {vs : List Nat} {t : Tg} (he : SE s e m) (hg : SG s tg vs t) (hs : swapsWithSole [tg] e pos.line s.X.env = pure false := by rfl) (hw : swappedStores [tg] e s.X.env = pure none := by rfl)
    (h1 : (assignEach [tg] s.X.env).map (·.2) = [assign tg s.X.env] := by rfl) : SS s (.Assign [tg] e pos) (mAsg t m) :=
  PS.weak (ps_asg he hg hs hw h1) fun D σ H q => by
    obtain ⟨ρ, S, A, c, q⟩ := q
    refine tD_bindS c q fun d S1 v H1 _ p1 c1 r1 _ q1 => ?_
    split at q1
    · rename_i hp
      cases ht : t (cool d) ρ with
      | none => rw [ht] at q1; exact q1.elim
      | some ρ' =>
        rw [ht] at q1
        exact ⟨ρ, S1, A, cool d, ρ', c1, (r1.plain hp).cool, ht, fun σ' _ c2 => q1 σ' H1 A .refl c2⟩
    · exact q1.elim
end
end Dv

namespace Dv
open PySem PySem.Spec PyProof.Rows L2
set_option autoImplicit false
/-! ### a law's end -/
/-- the law's def as data's function is true of every script -/
def True63 (n : Nat) (m : Fn) : Prop := ∀ ns : List Int, ns.length ≤ n → ∃ S', m [.rol (ns.map .int)] [] = .ok (.bl true) S'
def A0 : Wy := ⟨fun _ => 0, fun _ => False⟩
theorem no_own {S : Store} (h : S = []) {a : Addr} : ¬ Own A0 S a := by
  subst h
  rintro (⟨n, d, h, _⟩ | h)
  · simp at h
  · exact h
theorem cells0 {K : PySem.W.Frag} {H : Hp} : Cells K A0 [] H := ⟨fun n d h => by simp at h, fun n m d e h => by simp at h, fun a h => h.elim, fun a h => h.elim⟩
theorem law_callD {P : Program} {w : World} {K : PySem.W.Frag} {mg mb : Str → Option Value} {cad : Nat → Addr} {k : Nat} {fa a : Addr} {m : Fn} {s₁ : Shared} {vs : List Value} {ns : List Int}
    (KX : K.In s₁.heap) (hns : s₁.heap.Ns mainGlobals mg) (hb : s₁.heap.Ns builtinsNs mb) (hbb : ∀ x : Str, x ≠ "__name__" → mb x = bootBuiltins x) (hlim : s₁.heap.NoLimit) (hg : s₁.gens = #[])
    (ha : s₁.heap.get? a = some { cls := .type "list", data := .seq vs.toArray }) (hi : IntsAre vs ns) (hl : ns.length ≤ sizeLine) (hr : Room k callerA)
    (F : ∀ base : Heap, K.In base → base.Ns mainGlobals mg → FnD ⟨P, w, K, mg, base, cad⟩ k fa 1 m) (hm : ∃ S', m [.rol (ns.map .int)] [] = .ok (.bl true) S') :
    codeAny (model P w) callerA (.call (.ref fa) ⟨[.ref a], []⟩) (fun r s' => r = .ok (.ret (.bool true)) ∧ OldK s₁.heap s'.heap ∧ s'.os = s₁.os ∧ AllBare s'.gens) s₁ := by
  have rv := vals_ints hi
  have lenV := hi.length
  have core : ∀ H : Hp, Only H → Ro K H a (ns.map V.int) → HOk P w H s₁.heap → (∀ b, H b ≠ none → b = a) → (H a ≠ none → K.lookup a = none) →
      codeAny (model P w) callerA (.call (.ref fa) ⟨[.ref a], []⟩) (fun r s' => r = .ok (.ret (.bool true)) ∧ OldK s₁.heap s'.heap ∧ s'.os = s₁.os ∧ AllBare s'.gens) s₁ := by
    intro H hO hS hok hA hK
    have nota : ∀ {b : Addr}, b ≠ a → H b = none := fun {b} n => Classical.byContradiction fun z => n (hA b z)
    have base_of : ∀ {b : Addr} {o : Obj}, s₁.heap.get? b = some o → H b = none → (hidT s₁.heap H).get? b = some o := fun e n => hidT_get e n
    have dictNot : ∀ {b : Addr} {o : Obj} {es : Array DictEntry} {ep : Nat}, s₁.heap.get? b = some o → o.data = .dict es ep → H b = none := fun {b o es ep} e d => nota fun z => by
      subst z
      rw [ha] at e; cases e
      exact nomatch (show Data.seq vs.toArray _ = Data.dict es ep from d)
    have nsK : ∀ {b : Addr} {m : Str → Option Value}, s₁.heap.Ns b m → (hidT s₁.heap H).Ns b m := fun {b m} ⟨o, es, ep, e, d, r⟩ => ⟨o, es, ep, base_of e (dictNot e d), d, r⟩
    have hKb : K.In (hidT s₁.heap H) := fun b o e => base_of (KX b o e) (Classical.byContradiction fun z => by
      have e2 := hA b z
      subst e2
      rw [hK z] at e; cases e)
    have hM : Mod K mg (hidT s₁.heap H) := ⟨hKb, nsK hns, ⟨mb, nsK hb, hbb⟩, let ⟨mc, h1, h2⟩ := hlim; ⟨mc, nsK h1, h2⟩⟩
    have e0 : Env0 P w K mg (hidT s₁.heap H) callerA [] s₁ H := ⟨rfl, hM, fun b o e => of_hidT e, Nat.le_of_eq (hidT_size _ _), trivial, fun b hb => absurd (show b ∈ ([] : List Addr) from hb) (by simp), hok, .of_eq hg⟩
    obtain ⟨S', hm⟩ := hm
    have rs : Rp K H (Own A0 []) (.ref a) (.rol (ns.map .int)) := .rol hS (rpAll_ints ns)
    have sp : spD K cad m [.ref a] H (fun v _ => v = .bl true) (fun _ _ _ => False) := by
      refine ⟨[], A0, [.rol (ns.map .int)], cells0, .cons (.inr (.inl rs)) .nil, ?_⟩
      rw [hm]
      intro v H' _ r _
      rcases r with ⟨_, _, z, _⟩ | r | ⟨_, _, _, z, _⟩
      · cases z
      · cases r; rfl
      · cases z
    refine codeAny_mono (F _ hKb (nsK hns) callerA [] s₁ H [.ref a] [.ref a] _ _ hr rfl e0 (.cons rfl .nil) rfl sp) fun r s' h => ?_
    cases r with
    | error e =>
      obtain ⟨_, _, _, _, _, _, _, _, _, _, _, _, z⟩ := h
      exact z.elim
    | ok fl =>
      cases fl with
      | next => exact False.elim h
      | brk => exact False.elim h
      | cont => exact False.elim h
      | ret u =>
        obtain ⟨v, H', os, bare, un, hok', r', q⟩ := h
        have q' : v = .bl true := q
        subst q'
        obtain rfl : u = Value.bool true := r'
        refine ⟨rfl, OldK.of_keep fun b o e => ?_, os, bare⟩
        cases q : H b with
        | none => exact un.keep b o e q (by intro z; exact absurd (show b ∈ ([] : List Addr) from z) (by simp)) (by simp)
        | some u =>
          rcases hO b with z | ⟨ob, xs, z⟩
          · rw [q] at z; cases z
          · have z2 := un.frzs b ob _ z
            obtain ⟨e1, _⟩ := hok b _ z
            obtain ⟨e2, _⟩ := hok' b _ z2
            rw [e] at e1; cases e1
            exact e2
  cases hk : K.lookup a with
  | some o =>
    have e := KX a o hk
    rw [ha] at e
    cases e
    exact core (fun _ => none) (fun _ => .inl rfl) (.inr ⟨_, vs.toArray, _, hk, rfl, rfl, rfl, by rw [List.size_toArray, lenV]; exact hl, by simpa using rv⟩) (fun b u z => nomatch (show (none : Option HO) = some u from z)) (fun b z => absurd rfl z) fun z => absurd rfl z
  | none =>
    have at1 : ∀ b, b = a → (fun b => if b = a then some (HO.frz { cls := .type "list", data := .seq vs.toArray } (.lst (ns.map V.int))) else none : Hp) b = some (.frz { cls := .type "list", data := .seq vs.toArray } (.lst (ns.map V.int))) := fun b h => if_pos h
    have at2 : ∀ b, b ≠ a → (fun b => if b = a then some (HO.frz { cls := .type "list", data := .seq vs.toArray } (.lst (ns.map V.int))) else none : Hp) b = none := fun b h => if_neg h
    refine core (fun b => if b = a then some (.frz { cls := .type "list", data := .seq vs.toArray } (.lst (ns.map V.int))) else none) (fun b => ?_) (.inl ⟨_, at1 a rfl⟩) (fun b u z => ?_) (fun b z => ?_) fun _ => hk
    · by_cases hb : b = a
      · exact .inr ⟨_, _, at1 b hb⟩
      · exact .inl (at2 b hb)
    · by_cases hb : b = a
      · have z' := (at1 b hb).symm.trans z
        cases z'
        subst hb
        exact ⟨ha, by rw [List.length_map]; exact hl, vs, _, rv, ha⟩
      · have z' := (at2 b hb).symm.trans z
        cases z'
    · by_cases hb : b = a
      · exact hb
      · exact absurd (at2 b hb) z
theorem walk_D {l : PySem.W.OpenLaw} {n k : Nat} {q : Program} {loose : List Str} {XP : (Str → Option Value) → Heap → Prop} {YP : World → Heap → Prop} {d : DefRec} {m : Fn}
    (hn : l.most = some n) (hn2 : n ≤ sizeLine) (hdf : d.params.defaults = []) (hr : Room k callerA) (hm : True63 n m)
    (F : ∀ (w : World) (mg : Str → Option Value) (fa : Addr) (h : Heap), YP w h → h.Ns mainGlobals mg → mg d.name = some (.ref fa) →
      ∃ (K : PySem.W.Frag) (cad : Nat → Addr), K.In h ∧ ∀ base : Heap, K.In base → base.Ns mainGlobals mg → FnD ⟨l.prog, w, K, mg, base, cad⟩ k fa 1 m) :
    PySem.W.WalkO q loose XP YP l.row.toRowW d [] (fun f vs => PySem.call f vs) := by
  refine Att.attach_call hn hdf fun w s₀ s₁ mg mb fa o pm cd doc a vs ns G Y ho hd hcd hmg hobj hints hlen hg => ?_
  obtain ⟨K, cad, KX, hF⟩ := F w mg fa _ Y G.T.g hmg
  exact law_callD KX G.T.g G.T.b G.T.builtins G.T.nolimit hg hobj hints (Nat.le_trans hlen hn2) hr hF (hm ns hlen)
end Dv

namespace Dv
open PySem PySem.Spec PyProof.Rows L2
set_option autoImplicit false
/-! ### for the printed derivations -/
theorem bo_len : bootBuiltins "len" = some (.builtin "len") := by decide +kernel
theorem bo_abs : bootBuiltins "abs" = some (.builtin "abs") := by decide +kernel
theorem bo_max : bootBuiltins "max" = some (.builtin "max") := by decide +kernel
theorem bo_min : bootBuiltins "min" = some (.builtin "min") := by decide +kernel
theorem bo_sum : bootBuiltins "sum" = some (.builtin "sum") := by decide +kernel
theorem bo_all : bootBuiltins "all" = some (.builtin "all") := by decide +kernel
theorem bo_any : bootBuiltins "any" = some (.builtin "any") := by decide +kernel
theorem bo_repr : bootBuiltins "repr" = some (.builtin "repr") := by decide +kernel
theorem bo_sorted : bootBuiltins "sorted" = some (.builtin "sorted") := by decide +kernel
theorem bo_isinstance : bootBuiltins "isinstance" = some (.builtin "isinstance") := by decide +kernel
theorem bo_int : bootBuiltins "int" = some (.type "int") := by decide +kernel
theorem bo_bool : bootBuiltins "bool" = some (.type "bool") := by decide +kernel
theorem bo_str : bootBuiltins "str" = some (.type "str") := by decide +kernel
theorem bo_list : bootBuiltins "list" = some (.type "list") := by decide +kernel
theorem bo_tuple : bootBuiltins "tuple" = some (.type "tuple") := by decide +kernel
theorem bo_dict : bootBuiltins "dict" = some (.type "dict") := by decide +kernel
section
variable {s : Sit} {G : Gd} {k : Nat}
theorem Gs.hu (g : Gs G k s) : s.X.A.units + 65 < cLine := by have := g.room.un; omega
theorem Gs.hu' (g : Gs G k s) : s.X.A.units + 64 < cLine := by have := g.room.un; omega
theorem se_gint {x : Str} {i : Int} {pos : Pos} (hg : Gl s.X x) (hm : ∃ t, s.X.mg x = some (.int i t)) (hd : (x == ("__debug__" : Str)) = false := by decide) : SE s (.Name x pos) (mK (.int i)) := by
  obtain ⟨t, hm⟩ := hm
  exact se_glob hg hm (show RelV (.int i) (.int i t) from ⟨t, rfl⟩) (fun _ _ => .int i) rfl hd
theorem se_gstr {x z : Str} {pos : Pos} (hg : Gl s.X x) (hm : ∃ t, s.X.mg x = some (.str z t)) (hd : (x == ("__debug__" : Str)) = false := by decide) : SE s (.Name x pos) (mK (.str z)) := by
  obtain ⟨t, hm⟩ := hm
  exact se_glob hg hm (show RelV (.str z) (.str z t) from ⟨t, rfl⟩) (fun _ _ => .str z) rfl hd
end
/-- a def's function object -/
abbrev Df (G : Gd) (x : Str) (st : Stmt) : Prop := ∃ fd, FunD G.K x x (defArgs st) (defBody st) (defScope st) [] [] (He.ga G.K x) fd
theorem Df.kp {G : Gd} {x : Str} {st : Stmt} (h : Df G x st) : PySem.W.keepIn G.K (.ref (He.ga G.K x)) = true := by
  obtain ⟨fd, F⟩ := h
  exact F.kp
/-- a comprehension's block, by one run -/
def blkB (N : List Str) (sc scope : Scope) (own : List (Str × Nat)) : Bool :=
  decide (scope.kind = .function) && (scope.names.all (fun y => decide (scope.names.lookup y.1 = some y.2)) && (own.all (fun p => decide (N[p.2]? = some p.1)) &&
    (scope.names.all (fun y => decide (y.2 = .free → sc.names.lookup y.1 = some .cell ∨ sc.names.lookup y.1 = some .free)) &&
      scope.names.all (fun y => decide (y.2 = .local ∨ y.2 = .cell → y.1 ∈ own.map (·.1) ∨ y.1 ∉ N)))))
theorem blk_ok {N : List Str} {sc scope : Scope} {own : List (Str × Nat)} (h : blkB N sc scope own = true) : BlkOk N sc scope own := by
  simp only [blkB, Bool.and_eq_true, List.all_eq_true, decide_eq_true_eq] at h
  exact ⟨h.1, h.2.1, h.2.2.1, h.2.2.2.1, h.2.2.2.2⟩
end Dv

namespace Lk01
open PySem PySem.Spec PyProof.Rows L2 Dv
set_option autoImplicit false
def topS (i : Nat) : Stmt := PySem.Challenge.pw_whomet_k01_whole_two_lots.main.body.getD i (.Pass ⟨0, 0, 0, 0⟩)
abbrev s__law_bag : Stmt := topS 22
abbrev s_is_whole : Stmt := topS 7
abbrev s_is_within : Stmt := topS 8
abbrev s_require_size : Stmt := topS 13
abbrev s_is_person : Stmt := topS 9
abbrev s_is_lot_of : Stmt := topS 10
abbrev s_require_any_lot : Stmt := topS 14
abbrev s_require_two : Stmt := topS 15
abbrev s_bits : Stmt := topS 11
abbrev s_standing : Stmt := topS 17
abbrev s_left_out : Stmt := topS 20
abbrev s_is_lot : Stmt := topS 16
abbrev s__law_draw : Stmt := topS 23
abbrev s__law_one_of : Stmt := topS 24
abbrev s__law_lot : Stmt := topS 25
abbrev s_lot_of : Stmt := topS 12
abbrev s_together : Stmt := topS 18
abbrev s_common : Stmt := topS 19
abbrev s__law_word : Stmt := topS 26
abbrev s__law_right : Stmt := topS 27
abbrev s_law : Stmt := topS 28
theorem sc__law_bag : FnScope ["script", "at", "cell", "great", "blend"] ["script", "at"] (defScope s__law_bag) := ⟨rfl, rfl, rfl, by decide +kernel, rfl, by decide +kernel, by decide +kernel⟩
theorem sc_is_whole : FnScope ["value"] ["value"] (defScope s_is_whole) := ⟨rfl, rfl, rfl, by decide +kernel, rfl, by decide +kernel, by decide +kernel⟩
theorem sc_is_within : FnScope ["value", "low", "high"] ["value", "low", "high"] (defScope s_is_within) := ⟨rfl, rfl, rfl, by decide +kernel, rfl, by decide +kernel, by decide +kernel⟩
theorem sc_require_size : FnScope ["size"] ["size"] (defScope s_require_size) := ⟨rfl, rfl, rfl, by decide +kernel, rfl, by decide +kernel, by decide +kernel⟩
theorem sc_is_person : FnScope ["size", "value"] ["size", "value"] (defScope s_is_person) := ⟨rfl, rfl, rfl, by decide +kernel, rfl, by decide +kernel, by decide +kernel⟩
theorem sc_is_lot_of : FnScope ["size", "value", "one", "other"] ["size", "value"] (defScope s_is_lot_of) := ⟨rfl, rfl, rfl, by decide +kernel, rfl, by decide +kernel, by decide +kernel⟩
theorem sc_require_any_lot : FnScope ["size", "value"] ["size", "value"] (defScope s_require_any_lot) := ⟨rfl, rfl, rfl, by decide +kernel, rfl, by decide +kernel, by decide +kernel⟩
theorem sc_require_two : FnScope ["size", "one", "other"] ["size", "one", "other"] (defScope s_require_two) := ⟨rfl, rfl, rfl, by decide +kernel, rfl, by decide +kernel, by decide +kernel⟩
theorem sc_bits : FnScope ["lot", "person"] ["lot"] (defScope s_bits) := ⟨rfl, rfl, rfl, by decide +kernel, rfl, by decide +kernel, by decide +kernel⟩
theorem sc_standing : FnScope ["size", "one", "other", "first", "second"] ["size", "one", "other"] (defScope s_standing) := ⟨rfl, rfl, rfl, by decide +kernel, rfl, by decide +kernel, by decide +kernel⟩
theorem sc_left_out : FnScope ["size", "lot", "person"] ["size", "lot"] (defScope s_left_out) := ⟨rfl, rfl, rfl, by decide +kernel, rfl, by decide +kernel, by decide +kernel⟩
theorem sc_is_lot : FnScope ["size", "value"] ["size", "value"] (defScope s_is_lot) := ⟨rfl, rfl, rfl, by decide +kernel, rfl, by decide +kernel, by decide +kernel⟩
theorem sc__law_draw : FnScope ["bag", "many", "found"] ["bag", "many"] (defScope s__law_draw) := ⟨rfl, rfl, rfl, by decide +kernel, rfl, by decide +kernel, by decide +kernel⟩
theorem sc__law_one_of : FnScope ["bag", "items"] ["bag", "items"] (defScope s__law_one_of) := ⟨rfl, rfl, rfl, by decide +kernel, rfl, by decide +kernel, by decide +kernel⟩
theorem sc__law_lot : FnScope ["bag", "size", "part", "person"] ["bag", "size"] (defScope s__law_lot) := ⟨rfl, rfl, rfl, by decide +kernel, rfl, by decide +kernel, by decide +kernel⟩
theorem sc_lot_of : FnScope ["number", "size", "person"] ["number", "size"] (defScope s_lot_of) := ⟨rfl, rfl, rfl, by decide +kernel, rfl, by decide +kernel, by decide +kernel⟩
theorem sc_together : FnScope ["size", "one", "other"] ["size", "one", "other"] (defScope s_together) := ⟨rfl, rfl, rfl, by decide +kernel, rfl, by decide +kernel, by decide +kernel⟩
theorem sc_common : FnScope ["size", "one", "other"] ["size", "one", "other"] (defScope s_common) := ⟨rfl, rfl, rfl, by decide +kernel, rfl, by decide +kernel, by decide +kernel⟩
theorem sc__law_word : FnScope ["one", "other", "both", "person"] ["one", "other"] (defScope s__law_word) := ⟨rfl, rfl, rfl, by decide +kernel, rfl, by decide +kernel, by decide +kernel⟩
theorem sc__law_right : FnScope ["bag", "size", "one", "other", "told", "due", "near", "dues", "value", "is_fine", "person"] ["bag"] (defScope s__law_right) := ⟨rfl, rfl, rfl, by decide +kernel, rfl, by decide +kernel, by decide +kernel⟩
theorem sc_law : FnScope ["script", "at", "told", "bag", "turn"] ["script"] (defScope s_law) := ⟨rfl, rfl, rfl, by decide +kernel, rfl, by decide +kernel, by decide +kernel⟩
/-- what stands behind the top -/
structure Mg (G : Gd) : Prop where
  c_GREAT : ∃ t, G.mg "GREAT" = some (.int 1000000000000000000000000000000000000000000000000000000000000 t)
  c_MAX_PEOPLE : ∃ t, G.mg "MAX_PEOPLE" = some (.int 20 t)
  b_abs : G.mg "abs" = none
  b_all : G.mg "all" = none
  b_bool : G.mg "bool" = none
  b_int : G.mg "int" = none
  b_isinstance : G.mg "isinstance" = none
  b_len : G.mg "len" = none
  b_list : G.mg "list" = none
  b_max : G.mg "max" = none
  b_min : G.mg "min" = none
  b_range : G.mg "range" = none
  b_repr : G.mg "repr" = none
  b_set : G.mg "set" = none
  b_sorted : G.mg "sorted" = none
  b_sum : G.mg "sum" = none
  b_tuple : G.mg "tuple" = none
  b_zip : G.mg "zip" = none
  g__law_bag : G.mg "_law_bag" = some (.ref (He.ga G.K "_law_bag"))
  d__law_bag : Df G "_law_bag" s__law_bag
  g_is_whole : G.mg "is_whole" = some (.ref (He.ga G.K "is_whole"))
  d_is_whole : Df G "is_whole" s_is_whole
  g_is_within : G.mg "is_within" = some (.ref (He.ga G.K "is_within"))
  d_is_within : Df G "is_within" s_is_within
  g_require_size : G.mg "require_size" = some (.ref (He.ga G.K "require_size"))
  d_require_size : Df G "require_size" s_require_size
  g_is_person : G.mg "is_person" = some (.ref (He.ga G.K "is_person"))
  d_is_person : Df G "is_person" s_is_person
  g_is_lot_of : G.mg "is_lot_of" = some (.ref (He.ga G.K "is_lot_of"))
  d_is_lot_of : Df G "is_lot_of" s_is_lot_of
  g_require_any_lot : G.mg "require_any_lot" = some (.ref (He.ga G.K "require_any_lot"))
  d_require_any_lot : Df G "require_any_lot" s_require_any_lot
  g_require_two : G.mg "require_two" = some (.ref (He.ga G.K "require_two"))
  d_require_two : Df G "require_two" s_require_two
  g_bits : G.mg "bits" = some (.ref (He.ga G.K "bits"))
  d_bits : Df G "bits" s_bits
  g_standing : G.mg "standing" = some (.ref (He.ga G.K "standing"))
  d_standing : Df G "standing" s_standing
  g_left_out : G.mg "left_out" = some (.ref (He.ga G.K "left_out"))
  d_left_out : Df G "left_out" s_left_out
  g_is_lot : G.mg "is_lot" = some (.ref (He.ga G.K "is_lot"))
  d_is_lot : Df G "is_lot" s_is_lot
  g__law_draw : G.mg "_law_draw" = some (.ref (He.ga G.K "_law_draw"))
  d__law_draw : Df G "_law_draw" s__law_draw
  g__law_one_of : G.mg "_law_one_of" = some (.ref (He.ga G.K "_law_one_of"))
  d__law_one_of : Df G "_law_one_of" s__law_one_of
  g__law_lot : G.mg "_law_lot" = some (.ref (He.ga G.K "_law_lot"))
  d__law_lot : Df G "_law_lot" s__law_lot
  g_lot_of : G.mg "lot_of" = some (.ref (He.ga G.K "lot_of"))
  d_lot_of : Df G "lot_of" s_lot_of
  g_together : G.mg "together" = some (.ref (He.ga G.K "together"))
  d_together : Df G "together" s_together
  g_common : G.mg "common" = some (.ref (He.ga G.K "common"))
  d_common : Df G "common" s_common
  g__law_word : G.mg "_law_word" = some (.ref (He.ga G.K "_law_word"))
  d__law_word : Df G "_law_word" s__law_word
  g__law_right : G.mg "_law_right" = some (.ref (He.ga G.K "_law_right"))
  d__law_right : Df G "_law_right" s__law_right
  d_law : Df G "law" s_law
def b__law_bag (base : Nat) : MS :=
  (mSeq (mSetV base 2 (mIf (mTB (mOp dLt (mVar 1) (mBlt cLen (aCons (mVar 0) aNil)))) (mBlt cInt (aCons (mOp dIx' (mVar 0) (mVar 1)) aNil)) (mOp dAdd (mOp dMul (mK (.int 89)) (mVar 1)) (mK (.int 41)))))
  (mSeq (mSetV base 3 (mOp dMod (mBlt cMax2 (aCons (mK (.int 0)) (aCons (mOp dSub (mBlt cAbs (aCons (mVar 2) aNil)) (mOp dPow (mK (.int 10)) (mK (.int 18)))) aNil))) (mOp dMul (mOp dPow (mK (.int 10)) (mK (.int 60))) (mOp dPow (mK (.int 10)) (mK (.int 60))))))
  (mSeq (mSetV base 4 (mOp dAdd (mOp dAdd (mOp dAdd (mOp dMul (mOp dMod (mBlt cInt (aCons (mBlt cAbs (aCons (mVar 2) aNil)) aNil)) (mOp dAdd (mOp dPow (mK (.int 10)) (mK (.int 12))) (mK (.int 39)))) (mK (.int 10007))) (mOp dMul (mK (.int 509)) (mVar 1))) (mOp dMul (mK (.int 17)) (mBlt cInt (aCons (mOp dLt (mVar 2) (mK (.int 0))) aNil)))) (mK (.int 1))))
  (mRet (mLst (aCons (mVar 3) (aCons (mOp dMod (mBlt cInt (aCons (mVar 4) aNil)) (mOp dSub (mOp dPow (mK (.int 2)) (mK (.int 61))) (mK (.int 1)))) aNil)))))))
def d__law_bag : Fn := mDef 5 b__law_bag
theorem F__law_bag {G : Gd} (M : Mg G) : FnD G 1 (He.ga G.K "_law_bag") 2 d__law_bag := by
  obtain ⟨fd, F⟩ := M.d__law_bag
  refine fnD_of (b := b__law_bag) F sc__law_bag (F.bindsN fun _ _ _ _ _ _ us hl => match us, hl with | [_, _], _ => rfl) fun cdv A outer sh H E base g => ?_
  exact (ss_cons (s_setV sc__law_bag.nd (i := 2) rfl (by first | exact .inl rfl | exact .inr rfl) (se_ifExp (st_cmp op_lt sem_lt (se_var (pv 1)) (se_callB call_len sem_len (by rfl) M.b_len bo_len (sa_cons (se_var (pv 0)) sa_nil)) (nomark _)) (se_callTy call_int1 sem_int (by rfl) M.b_int bo_int (sa_cons (se_ix ix_seq sem_ix (se_var (pv 0)) (se_var (pv 1)) (fun _ _ => rfl)) sa_nil)) (se_bin op_add2 sem_add (se_bin op_mul2 sem_mul se_int (se_var (pv 1))) se_int)))
  (ss_cons (s_setV sc__law_bag.nd (i := 3) rfl (by first | exact .inl rfl | exact .inr rfl) (se_bin op_mod sem_mod (se_callB (call_max2 g.calm) sem_max2 (by rfl) M.b_max bo_max (sa_cons se_int (sa_cons (se_bin op_sub sem_sub (se_callB call_abs sem_abs (by rfl) M.b_abs bo_abs (sa_cons (se_var (pv 2)) sa_nil)) (se_bin op_pow sem_pow se_int se_int)) sa_nil))) (se_bin op_mul2 sem_mul (se_bin op_pow sem_pow se_int se_int) (se_bin op_pow sem_pow se_int se_int))))
  (ss_cons (s_setV sc__law_bag.nd (i := 4) rfl (by first | exact .inl rfl | exact .inr rfl) (se_bin op_add2 sem_add (se_bin op_add2 sem_add (se_bin op_add2 sem_add (se_bin op_mul2 sem_mul (se_bin op_mod sem_mod (se_callTy call_int1 sem_int (by rfl) M.b_int bo_int (sa_cons (se_callB call_abs sem_abs (by rfl) M.b_abs bo_abs (sa_cons (se_var (pv 2)) sa_nil)) sa_nil)) (se_bin op_add2 sem_add (se_bin op_pow sem_pow se_int se_int) se_int)) se_int) (se_bin op_mul2 sem_mul se_int (se_var (pv 1)))) (se_bin op_mul2 sem_mul se_int (se_callTy call_int1 sem_int (by rfl) M.b_int bo_int (sa_cons (se_cmp op_lt sem_lt (se_var (pv 2)) se_int (nomark _)) sa_nil)))) se_int))
  (ss_one (s_ret (se_lst (sa_cons (se_var (pv 3)) (sa_cons (se_bin op_mod sem_mod (se_callTy call_int1 sem_int (by rfl) M.b_int bo_int (sa_cons (se_var (pv 4)) sa_nil)) (se_bin op_sub sem_sub (se_bin op_pow sem_pow se_int se_int) se_int)) sa_nil))))))))
def b_is_whole (base : Nat) : MS :=
  (mRet (mAnd (mBlt cIsi (aCons (mVar 0) (aCons (mK (.ty "int")) aNil))) (mAnd (mNot (mBlt cIsi (aCons (mVar 0) (aCons (mK (.ty "bool")) aNil)))) (mChain dLt dLt (mUn dNeg (mK (.int 1000000000000000000000000000000000000000000000000000000000000))) (mVar 0) (mK (.int 1000000000000000000000000000000000000000000000000000000000000))))))
def d_is_whole : Fn := mDef 1 b_is_whole
theorem F_is_whole {G : Gd} (M : Mg G) : FnD G 1 (He.ga G.K "is_whole") 1 d_is_whole := by
  obtain ⟨fd, F⟩ := M.d_is_whole
  refine fnD_of (b := b_is_whole) F sc_is_whole (F.bindsN fun _ _ _ _ _ _ us hl => match us, hl with | [_], _ => rfl) fun cdv A outer sh H E base g => ?_
  exact (ss_one (s_ret (se_and (se_callB call_isi sem_isi (by rfl) M.b_isinstance bo_isinstance (sa_cons (se_var (pv 0)) (sa_cons (se_ty (by rfl) M.b_int bo_int) sa_nil))) (se_and (se_not (se_callB call_isi sem_isi (by rfl) M.b_isinstance bo_isinstance (sa_cons (se_var (pv 0)) (sa_cons (se_ty (by rfl) M.b_bool bo_bool) sa_nil)))) (se_one (se_chain op_lt op_lt sem_lt sem_lt (se_un un_neg sem_neg (se_gint (by rfl) M.c_GREAT)) (se_var (pv 0)) (se_gint (by rfl) M.c_GREAT)))))))
def b_is_within (base : Nat) : MS :=
  (mRet (mAnd (mCall d_is_whole 1 (aCons (mVar 0) aNil)) (mChain dLe dLe (mVar 1) (mVar 0) (mVar 2))))
def d_is_within : Fn := mDef 3 b_is_within
theorem F_is_within {G : Gd} (M : Mg G) : FnD G 2 (He.ga G.K "is_within") 3 d_is_within := by
  obtain ⟨fd, F⟩ := M.d_is_within
  refine fnD_of (b := b_is_within) F sc_is_within (F.bindsN fun _ _ _ _ _ _ us hl => match us, hl with | [_, _, _], _ => rfl) fun cdv A outer sh H E base g => ?_
  exact (ss_one (s_ret (se_and (se_call g (F_is_whole M) (by decide) (by rfl) M.g_is_whole M.d_is_whole.kp (sa_cons (se_var (pv 0)) sa_nil)) (se_one (se_chain op_le op_le sem_le sem_le (se_var (pv 1)) (se_var (pv 0)) (se_var (pv 2)))))))
def b_require_size (base : Nat) : MS :=
  (mIfS (mNotT (mT (mCall d_is_within 3 (aCons (mVar 0) (aCons (mK (.int 1)) (aCons (mK (.int 20)) aNil)))))) mNever mSkip)
def d_require_size : Fn := mDef 1 b_require_size
theorem F_require_size {G : Gd} (M : Mg G) : FnD G 3 (He.ga G.K "require_size") 1 d_require_size := by
  obtain ⟨fd, F⟩ := M.d_require_size
  refine fnD_of (b := b_require_size) F sc_require_size (F.bindsN fun _ _ _ _ _ _ us hl => match us, hl with | [_], _ => rfl) fun cdv A outer sh H E base g => ?_
  exact (ss_one (s_if (st_not (st_truth (se_call g (F_is_within M) (by decide) (by rfl) M.g_is_within M.d_is_within.kp (sa_cons (se_var (pv 0)) (sa_cons se_int (sa_cons (se_gint (by rfl) M.c_MAX_PEOPLE) sa_nil)))))) (ss_one s_never) ss_nil))
def b_is_person (base : Nat) : MS :=
  (mRet (mCall d_is_within 3 (aCons (mVar 1) (aCons (mK (.int 0)) (aCons (mOp dSub (mVar 0) (mK (.int 1))) aNil)))))
def d_is_person : Fn := mDef 2 b_is_person
theorem F_is_person {G : Gd} (M : Mg G) : FnD G 3 (He.ga G.K "is_person") 2 d_is_person := by
  obtain ⟨fd, F⟩ := M.d_is_person
  refine fnD_of (b := b_is_person) F sc_is_person (F.bindsN fun _ _ _ _ _ _ us hl => match us, hl with | [_, _], _ => rfl) fun cdv A outer sh H E base g => ?_
  exact (ss_one (s_ret (se_call g (F_is_within M) (by decide) (by rfl) M.g_is_within M.d_is_within.kp (sa_cons (se_var (pv 1)) (sa_cons se_int (sa_cons (se_bin op_sub sem_sub (se_var (pv 0)) se_int) sa_nil))))))
def b_is_lot_of (base : Nat) : MS :=
  (mSeq (mIfS (mOrT (mNotT (mT (mBlt cIsi (aCons (mVar 1) (aCons (mK (.ty "tuple")) aNil))))) (mNotT (mT (mBlt cAll (aCons (mComp (srT (mVar 1)) [2] (gN 2) tYesM (mCall d_is_person 2 (aCons (mVar 0) (aCons (mVar 2) aNil)))) aNil))))) (mRet (mK (.bl false))) mSkip)
  (mRet (mBlt cAll (aCons (mComp (srZ (aCons (mVar 1) (aCons (mCut (mVar 1) (oSome (mK (.int 1))) oNone) aNil))) [2, 3] (gT (gsC (gN 2) (gsC (gN 3) gs0))) tYesM (mOp dLt (mVar 2) (mVar 3))) aNil))))
def d_is_lot_of : Fn := mDef 4 b_is_lot_of
theorem F_is_lot_of {G : Gd} (M : Mg G) : FnD G 4 (He.ga G.K "is_lot_of") 2 d_is_lot_of := by
  obtain ⟨fd, F⟩ := M.d_is_lot_of
  refine fnD_of (b := b_is_lot_of) F sc_is_lot_of (F.bindsN fun _ _ _ _ _ _ us hl => match us, hl with | [_, _], _ => rfl) fun cdv A outer sh H E base g => ?_
  exact (ss_cons (s_if (sw_or (st_not (st_truth (se_callB call_isi sem_isi (by rfl) M.b_isinstance bo_isinstance (sa_cons (se_var (pv 1)) (sa_cons (se_ty (by rfl) M.b_tuple bo_tuple) sa_nil))))) (sw_or1 (st_not (st_truth (se_callB (cr_all g.calm) sem_all (by rfl) M.b_all bo_all (sa_cons (se_comp g.calm sc_is_lot_of.nd (si_tup (se_var (pv 1))) (own := [("one", 2)]) (blk_ok (by kernel_rfl)) rfl (fun _ _ _ _ _ => (sg_name sc_is_lot_of.nd (i := 2) rfl (by first | exact .inl rfl | exact .inr rfl) (by decide))) (fun _ _ _ _ _ => sts_nil) (fun _ _ _ _ _ => (se_call (g.blk _ _ _ _ _) (F_is_person M) (by decide) (by rfl) M.g_is_person M.d_is_person.kp (sa_cons (se_var (pv 0)) (sa_cons (se_var (pv 2)) sa_nil))))) sa_nil)))))).st (ss_one (s_ret se_bl)) ss_nil)
  (ss_one (s_ret (se_callB (cr_all g.calm) sem_all (by rfl) M.b_all bo_all (sa_cons (se_comp g.calm sc_is_lot_of.nd (si_zip (by rfl) M.b_zip (sa_cons (se_var (pv 1)) (sa_cons (se_cut (se_var (pv 1)) (so_some se_int) so_none) sa_nil))) (own := [("one", 2), ("other", 3)]) (blk_ok (by kernel_rfl)) rfl (fun _ _ _ _ _ => (sg_tup (g.blk _ _ _ _ _).calm (sgs_cons (sg_name sc_is_lot_of.nd (i := 2) rfl (by first | exact .inl rfl | exact .inr rfl) (by decide)) (sgs_cons (sg_name sc_is_lot_of.nd (i := 3) rfl (by first | exact .inl rfl | exact .inr rfl) (by decide)) sgs_nil)) rfl rfl (gsC_len (gsC_len gs0_len)))) (fun _ _ _ _ _ => sts_nil) (fun _ _ _ _ _ => (se_cmp op_lt sem_lt (se_var (pv 2)) (se_var (pv 3)) (nomark _)))) sa_nil)))))
def b_require_any_lot (base : Nat) : MS :=
  (mIfS (mNotT (mT (mCall d_is_lot_of 2 (aCons (mVar 0) (aCons (mVar 1) aNil))))) mNever mSkip)
def d_require_any_lot : Fn := mDef 2 b_require_any_lot
theorem F_require_any_lot {G : Gd} (M : Mg G) : FnD G 5 (He.ga G.K "require_any_lot") 2 d_require_any_lot := by
  obtain ⟨fd, F⟩ := M.d_require_any_lot
  refine fnD_of (b := b_require_any_lot) F sc_require_any_lot (F.bindsN fun _ _ _ _ _ _ us hl => match us, hl with | [_, _], _ => rfl) fun cdv A outer sh H E base g => ?_
  exact (ss_one (s_if (st_not (st_truth (se_call g (F_is_lot_of M) (by decide) (by rfl) M.g_is_lot_of M.d_is_lot_of.kp (sa_cons (se_var (pv 0)) (sa_cons (se_var (pv 1)) sa_nil))))) (ss_one s_never) ss_nil))
def b_require_two (base : Nat) : MS :=
  (mSeq (mDrop (mCall d_require_size 1 (aCons (mVar 0) aNil)))
  (mSeq (mDrop (mCall d_require_any_lot 2 (aCons (mVar 0) (aCons (mVar 1) aNil))))
  (mDrop (mCall d_require_any_lot 2 (aCons (mVar 0) (aCons (mVar 2) aNil))))))
def d_require_two : Fn := mDef 3 b_require_two
theorem F_require_two {G : Gd} (M : Mg G) : FnD G 6 (He.ga G.K "require_two") 3 d_require_two := by
  obtain ⟨fd, F⟩ := M.d_require_two
  refine fnD_of (b := b_require_two) F sc_require_two (F.bindsN fun _ _ _ _ _ _ us hl => match us, hl with | [_, _, _], _ => rfl) fun cdv A outer sh H E base g => ?_
  exact (ss_cons (s_expr (se_call g (F_require_size M) (by decide) (by rfl) M.g_require_size M.d_require_size.kp (sa_cons (se_var (pv 0)) sa_nil)))
  (ss_cons (s_expr (se_call g (F_require_any_lot M) (by decide) (by rfl) M.g_require_any_lot M.d_require_any_lot.kp (sa_cons (se_var (pv 0)) (sa_cons (se_var (pv 1)) sa_nil))))
  (ss_one (s_expr (se_call g (F_require_any_lot M) (by decide) (by rfl) M.g_require_any_lot M.d_require_any_lot.kp (sa_cons (se_var (pv 0)) (sa_cons (se_var (pv 2)) sa_nil)))))))
def b_bits (base : Nat) : MS :=
  (mRet (mBlt cSum (aCons (mComp (srT (mVar 0)) [1] (gN 1) tYesM (mOp dShl (mK (.int 1)) (mVar 1))) aNil)))
def d_bits : Fn := mDef 2 b_bits
theorem F_bits {G : Gd} (M : Mg G) : FnD G 1 (He.ga G.K "bits") 1 d_bits := by
  obtain ⟨fd, F⟩ := M.d_bits
  refine fnD_of (b := b_bits) F sc_bits (F.bindsN fun _ _ _ _ _ _ us hl => match us, hl with | [_], _ => rfl) fun cdv A outer sh H E base g => ?_
  exact (ss_one (s_ret (se_callB (cr_sum g.calm) sem_sum (by rfl) M.b_sum bo_sum (sa_cons (se_comp g.calm sc_bits.nd (si_tup (se_var (pv 0))) (own := [("person", 1)]) (blk_ok (by kernel_rfl)) rfl (fun _ _ _ _ _ => (sg_name sc_bits.nd (i := 1) rfl (by first | exact .inl rfl | exact .inr rfl) (by decide))) (fun _ _ _ _ _ => sts_nil) (fun _ _ _ _ _ => (se_bin op_shl sem_shl se_int (se_var (pv 1))))) sa_nil))))
def b_standing (base : Nat) : MS :=
  (mSeq (mDrop (mCall d_require_two 3 (aCons (mVar 0) (aCons (mVar 1) (aCons (mVar 2) aNil)))))
  (mSeq (mIfS (mTB (mOp dEq (mVar 1) (mVar 2))) (mRet (mK (.str "equal"))) mSkip)
  (mSeq (mPar base 3 4 false (mCall d_bits 1 (aCons (mVar 1) aNil)) (mCall d_bits 1 (aCons (mVar 2) aNil)))
  (mSeq (mIfS (mTB (mOp dEq (mOp dAnd (mVar 3) (mVar 4)) (mK (.int 0)))) (mRet (mK (.str "apart"))) mSkip)
  (mSeq (mIfS (mTB (mOp dEq (mOp dAnd (mVar 3) (mVar 4)) (mVar 3))) (mRet (mK (.str "within"))) mSkip)
  (mRet (mIf (mTB (mOp dEq (mOp dAnd (mVar 3) (mVar 4)) (mVar 4))) (mK (.str "around")) (mK (.str "across")))))))))
def d_standing : Fn := mDef 5 b_standing
theorem F_standing {G : Gd} (M : Mg G) : FnD G 7 (He.ga G.K "standing") 3 d_standing := by
  obtain ⟨fd, F⟩ := M.d_standing
  refine fnD_of (b := b_standing) F sc_standing (F.bindsN fun _ _ _ _ _ _ us hl => match us, hl with | [_, _, _], _ => rfl) fun cdv A outer sh H E base g => ?_
  exact (ss_cons (s_expr (se_call g (F_require_two M) (by decide) (by rfl) M.g_require_two M.d_require_two.kp (sa_cons (se_var (pv 0)) (sa_cons (se_var (pv 1)) (sa_cons (se_var (pv 2)) sa_nil)))))
  (ss_cons (s_if (st_cmp (op_eq2 g.hu') sem_eq (se_var (pv 1)) (se_var (pv 2)) (nomark _)) (ss_one (s_ret se_str)) ss_nil)
  (ss_cons (s_par g.calm sc_standing.nd (i := 3) (j := 4) rfl rfl (by decide) rfl rfl (se_call g (F_bits M) (by decide) (by rfl) M.g_bits M.d_bits.kp (sa_cons (se_var (pv 1)) sa_nil)) (se_call g (F_bits M) (by decide) (by rfl) M.g_bits M.d_bits.kp (sa_cons (se_var (pv 2)) sa_nil)) rfl (oj := false))
  (ss_cons (s_if (st_cmp (op_eq2 g.hu') sem_eq (se_bin op_and sem_band (se_var (pv 3)) (se_var (pv 4))) se_int (nomark _)) (ss_one (s_ret se_str)) ss_nil)
  (ss_cons (s_if (st_cmp (op_eq2 g.hu') sem_eq (se_bin op_and sem_band (se_var (pv 3)) (se_var (pv 4))) (se_var (pv 3)) (nomark _)) (ss_one (s_ret se_str)) ss_nil)
  (ss_one (s_ret (se_ifExp (st_cmp (op_eq2 g.hu') sem_eq (se_bin op_and sem_band (se_var (pv 3)) (se_var (pv 4))) (se_var (pv 4)) (nomark _)) se_str se_str))))))))
def b_left_out (base : Nat) : MS :=
  (mSeq (mDrop (mCall d_require_size 1 (aCons (mVar 0) aNil)))
  (mSeq (mDrop (mCall d_require_any_lot 2 (aCons (mVar 0) (aCons (mVar 1) aNil))))
  (mRet (mBlt cTuple (aCons (mComp (srR1 (aCons (mVar 0) aNil)) [2] (gN 2) (mTB (mOp dNotIn (mVar 2) (mVar 1))) (mVar 2)) aNil)))))
def d_left_out : Fn := mDef 3 b_left_out
theorem F_left_out {G : Gd} (M : Mg G) : FnD G 6 (He.ga G.K "left_out") 2 d_left_out := by
  obtain ⟨fd, F⟩ := M.d_left_out
  refine fnD_of (b := b_left_out) F sc_left_out (F.bindsN fun _ _ _ _ _ _ us hl => match us, hl with | [_, _], _ => rfl) fun cdv A outer sh H E base g => ?_
  exact (ss_cons (s_expr (se_call g (F_require_size M) (by decide) (by rfl) M.g_require_size M.d_require_size.kp (sa_cons (se_var (pv 0)) sa_nil)))
  (ss_cons (s_expr (se_call g (F_require_any_lot M) (by decide) (by rfl) M.g_require_any_lot M.d_require_any_lot.kp (sa_cons (se_var (pv 0)) (sa_cons (se_var (pv 1)) sa_nil))))
  (ss_one (s_ret (se_callTy call_tuple_of sem_tuple (by rfl) M.b_tuple bo_tuple (sa_cons (se_comp g.calm sc_left_out.nd (si_range1 (by rfl) M.b_range (sa_cons (se_var (pv 0)) sa_nil)) (own := [("person", 2)]) (blk_ok (by kernel_rfl)) rfl (fun _ _ _ _ _ => (sg_name sc_left_out.nd (i := 2) rfl (by first | exact .inl rfl | exact .inr rfl) (by decide))) (fun _ _ _ _ _ => (sts_one (st_cmp (op_notIn2 (g.blk _ _ _ _ _).hu) sem_notIn (se_var (pv 2)) (se_var (pv 1)) (by with_unfolding_all rfl)))) (fun _ _ _ _ _ => (se_var (pv 2)))) sa_nil))))))
def b_is_lot (base : Nat) : MS :=
  (mSeq (mDrop (mCall d_require_size 1 (aCons (mVar 0) aNil)))
  (mRet (mCall d_is_lot_of 2 (aCons (mVar 0) (aCons (mVar 1) aNil)))))
def d_is_lot : Fn := mDef 2 b_is_lot
theorem F_is_lot {G : Gd} (M : Mg G) : FnD G 5 (He.ga G.K "is_lot") 2 d_is_lot := by
  obtain ⟨fd, F⟩ := M.d_is_lot
  refine fnD_of (b := b_is_lot) F sc_is_lot (F.bindsN fun _ _ _ _ _ _ us hl => match us, hl with | [_, _], _ => rfl) fun cdv A outer sh H E base g => ?_
  exact (ss_cons (s_expr (se_call g (F_require_size M) (by decide) (by rfl) M.g_require_size M.d_require_size.kp (sa_cons (se_var (pv 0)) sa_nil)))
  (ss_one (s_ret (se_call g (F_is_lot_of M) (by decide) (by rfl) M.g_is_lot_of M.d_is_lot_of.kp (sa_cons (se_var (pv 0)) (sa_cons (se_var (pv 1)) sa_nil))))))
def b__law_draw (base : Nat) : MS :=
  (mSeq (mIfS (mTB (mOp dGt (mOp dIx' (mVar 0) (mK (.int 0))) (mK (.int 0)))) (mSeq (mSetV base 2 (mOp dMod (mBlt cInt (aCons (mOp dIx' (mVar 0) (mK (.int 0))) aNil)) (mVar 1)))
  (mSeq (mSetIx (mOp dDiv (mOp dIx' (mVar 0) (mK (.int 0))) (mVar 1)) (mVar 0) (mK (.int 0)))
  (mRet (mVar 2)))) mSkip)
  (mSeq (mSetIx (mOp dMod (mBlt cInt (aCons (mOp dAdd (mOp dMul (mOp dIx' (mVar 0) (mK (.int 1))) (mK (.int 6364136223))) (mK (.int 1442695041))) aNil)) (mOp dSub (mOp dPow (mK (.int 2)) (mK (.int 61))) (mK (.int 1)))) (mVar 0) (mK (.int 1)))
  (mRet (mOp dMod (mBlt cInt (aCons (mOp dDiv (mOp dIx' (mVar 0) (mK (.int 1))) (mK (.int 65537))) aNil)) (mVar 1)))))
def d__law_draw : Fn := mDef 3 b__law_draw
theorem F__law_draw {G : Gd} (M : Mg G) : FnD G 1 (He.ga G.K "_law_draw") 2 d__law_draw := by
  obtain ⟨fd, F⟩ := M.d__law_draw
  refine fnD_of (b := b__law_draw) F sc__law_draw (F.bindsN fun _ _ _ _ _ _ us hl => match us, hl with | [_, _], _ => rfl) fun cdv A outer sh H E base g => ?_
  exact (ss_cons (s_if (st_cmp op_gt sem_gt (se_ix ix_seq sem_ix (se_var (pv 0)) se_int (fun _ _ => rfl)) se_int (nomark _)) (ss_cons (s_setV sc__law_draw.nd (i := 2) rfl (by first | exact .inl rfl | exact .inr rfl) (se_bin op_mod sem_mod (se_callTy call_int1 sem_int (by rfl) M.b_int bo_int (sa_cons (se_ix ix_seq sem_ix (se_var (pv 0)) se_int (fun _ _ => rfl)) sa_nil)) (se_var (pv 1))))
  (ss_cons (s_setIx (se_bin op_fdivW sem_div (se_ix ix_seq sem_ix (se_var (pv 0)) se_int (fun _ _ => rfl)) (se_var (pv 1))) (se_var (pv 0)) se_int)
  (ss_one (s_ret (se_var (pv 2)))))) ss_nil)
  (ss_cons (s_setIx (se_bin op_mod sem_mod (se_callTy call_int1 sem_int (by rfl) M.b_int bo_int (sa_cons (se_bin op_add2 sem_add (se_bin op_mul2 sem_mul (se_ix ix_seq sem_ix (se_var (pv 0)) se_int (fun _ _ => rfl)) se_int) se_int) sa_nil)) (se_bin op_sub sem_sub (se_bin op_pow sem_pow se_int se_int) se_int)) (se_var (pv 0)) se_int)
  (ss_one (s_ret (se_bin op_mod sem_mod (se_callTy call_int1 sem_int (by rfl) M.b_int bo_int (sa_cons (se_bin op_fdivW sem_div (se_ix ix_seq sem_ix (se_var (pv 0)) se_int (fun _ _ => rfl)) se_int) sa_nil)) (se_var (pv 1)))))))
def b__law_one_of (base : Nat) : MS :=
  (mRet (mOp dIx' (mVar 1) (mCall d__law_draw 2 (aCons (mVar 0) (aCons (mBlt cLen (aCons (mVar 1) aNil)) aNil)))))
def d__law_one_of : Fn := mDef 2 b__law_one_of
theorem F__law_one_of {G : Gd} (M : Mg G) : FnD G 2 (He.ga G.K "_law_one_of") 2 d__law_one_of := by
  obtain ⟨fd, F⟩ := M.d__law_one_of
  refine fnD_of (b := b__law_one_of) F sc__law_one_of (F.bindsN fun _ _ _ _ _ _ us hl => match us, hl with | [_, _], _ => rfl) fun cdv A outer sh H E base g => ?_
  exact (ss_one (s_ret (se_ix ix_seq sem_ix (se_var (pv 1)) (se_call g (F__law_draw M) (by decide) (by rfl) M.g__law_draw M.d__law_draw.kp (sa_cons (se_var (pv 0)) (sa_cons (se_callB call_len sem_len (by rfl) M.b_len bo_len (sa_cons (se_var (pv 1)) sa_nil)) sa_nil))) (fun _ _ => rfl))))
def b__law_lot (base : Nat) : MS :=
  (mSeq (mSetV base 2 (mCall d__law_one_of 2 (aCons (mVar 0) (aCons (mLst (aCons (mK (.int 1)) (aCons (mK (.int 2)) (aCons (mK (.int 2)) (aCons (mK (.int 5)) aNil))))) aNil))))
  (mRet (mBlt cTuple (aCons (mComp (srR1 (aCons (mVar 1) aNil)) [3] (gN 3) (mAndT (mTB (mOp dEq (mCall d__law_draw 2 (aCons (mVar 0) (aCons (mVar 2) aNil))) (mK (.int 0)))) (mTB (mOp dGt (mCall d__law_draw 2 (aCons (mVar 0) (aCons (mK (.int 9)) aNil))) (mK (.int 0))))) (mVar 3)) aNil))))
def d__law_lot : Fn := mDef 4 b__law_lot
theorem F__law_lot {G : Gd} (M : Mg G) : FnD G 3 (He.ga G.K "_law_lot") 2 d__law_lot := by
  obtain ⟨fd, F⟩ := M.d__law_lot
  refine fnD_of (b := b__law_lot) F sc__law_lot (F.bindsN fun _ _ _ _ _ _ us hl => match us, hl with | [_, _], _ => rfl) fun cdv A outer sh H E base g => ?_
  exact (ss_cons (s_setV sc__law_lot.nd (i := 2) rfl (by first | exact .inl rfl | exact .inr rfl) (se_call g (F__law_one_of M) (by decide) (by rfl) M.g__law_one_of M.d__law_one_of.kp (sa_cons (se_var (pv 0)) (sa_cons (se_lst (sa_cons se_int (sa_cons se_int (sa_cons se_int (sa_cons se_int sa_nil))))) sa_nil))))
  (ss_one (s_ret (se_callTy call_tuple_of sem_tuple (by rfl) M.b_tuple bo_tuple (sa_cons (se_comp g.calm sc__law_lot.nd (si_range1 (by rfl) M.b_range (sa_cons (se_var (pv 1)) sa_nil)) (own := [("person", 3)]) (blk_ok (by kernel_rfl)) rfl (fun _ _ _ _ _ => (sg_name sc__law_lot.nd (i := 3) rfl (by first | exact .inl rfl | exact .inr rfl) (by decide))) (fun _ _ _ _ _ => (sts_one (sw_and (st_cmp (op_eq2 (g.blk _ _ _ _ _).hu') sem_eq (se_call (g.blk _ _ _ _ _) (F__law_draw M) (by decide) (by rfl) M.g__law_draw M.d__law_draw.kp (sa_cons (se_var (pv 0)) (sa_cons (se_var (pv 2)) sa_nil))) se_int (nomark _)) (sw_and1 (st_cmp op_gt sem_gt (se_call (g.blk _ _ _ _ _) (F__law_draw M) (by decide) (by rfl) M.g__law_draw M.d__law_draw.kp (sa_cons (se_var (pv 0)) (sa_cons se_int sa_nil))) se_int (nomark _)))).st)) (fun _ _ _ _ _ => (se_var (pv 3)))) sa_nil)))))
def b_lot_of (base : Nat) : MS :=
  (mRet (mBlt cTuple (aCons (mComp (srR1 (aCons (mVar 1) aNil)) [2] (gN 2) (mT (mOp dAnd (mOp dShr (mVar 0) (mVar 2)) (mK (.int 1)))) (mVar 2)) aNil)))
def d_lot_of : Fn := mDef 3 b_lot_of
theorem F_lot_of {G : Gd} (M : Mg G) : FnD G 1 (He.ga G.K "lot_of") 2 d_lot_of := by
  obtain ⟨fd, F⟩ := M.d_lot_of
  refine fnD_of (b := b_lot_of) F sc_lot_of (F.bindsN fun _ _ _ _ _ _ us hl => match us, hl with | [_, _], _ => rfl) fun cdv A outer sh H E base g => ?_
  exact (ss_one (s_ret (se_callTy call_tuple_of sem_tuple (by rfl) M.b_tuple bo_tuple (sa_cons (se_comp g.calm sc_lot_of.nd (si_range1 (by rfl) M.b_range (sa_cons (se_var (pv 1)) sa_nil)) (own := [("person", 2)]) (blk_ok (by kernel_rfl)) rfl (fun _ _ _ _ _ => (sg_name sc_lot_of.nd (i := 2) rfl (by first | exact .inl rfl | exact .inr rfl) (by decide))) (fun _ _ _ _ _ => (sts_one (st_truth (se_bin op_and sem_band (se_bin op_shr sem_shr (se_var (pv 0)) (se_var (pv 2))) se_int)))) (fun _ _ _ _ _ => (se_var (pv 2)))) sa_nil))))
def b_together (base : Nat) : MS :=
  (mSeq (mDrop (mCall d_require_two 3 (aCons (mVar 0) (aCons (mVar 1) (aCons (mVar 2) aNil)))))
  (mRet (mCall d_lot_of 2 (aCons (mOp dOr (mCall d_bits 1 (aCons (mVar 1) aNil)) (mCall d_bits 1 (aCons (mVar 2) aNil))) (aCons (mVar 0) aNil)))))
def d_together : Fn := mDef 3 b_together
theorem F_together {G : Gd} (M : Mg G) : FnD G 7 (He.ga G.K "together") 3 d_together := by
  obtain ⟨fd, F⟩ := M.d_together
  refine fnD_of (b := b_together) F sc_together (F.bindsN fun _ _ _ _ _ _ us hl => match us, hl with | [_, _, _], _ => rfl) fun cdv A outer sh H E base g => ?_
  exact (ss_cons (s_expr (se_call g (F_require_two M) (by decide) (by rfl) M.g_require_two M.d_require_two.kp (sa_cons (se_var (pv 0)) (sa_cons (se_var (pv 1)) (sa_cons (se_var (pv 2)) sa_nil)))))
  (ss_one (s_ret (se_call g (F_lot_of M) (by decide) (by rfl) M.g_lot_of M.d_lot_of.kp (sa_cons (se_bin op_or sem_bor (se_call g (F_bits M) (by decide) (by rfl) M.g_bits M.d_bits.kp (sa_cons (se_var (pv 1)) sa_nil)) (se_call g (F_bits M) (by decide) (by rfl) M.g_bits M.d_bits.kp (sa_cons (se_var (pv 2)) sa_nil))) (sa_cons (se_var (pv 0)) sa_nil))))))
def b_common (base : Nat) : MS :=
  (mSeq (mDrop (mCall d_require_two 3 (aCons (mVar 0) (aCons (mVar 1) (aCons (mVar 2) aNil)))))
  (mRet (mCall d_lot_of 2 (aCons (mOp dAnd (mCall d_bits 1 (aCons (mVar 1) aNil)) (mCall d_bits 1 (aCons (mVar 2) aNil))) (aCons (mVar 0) aNil)))))
def d_common : Fn := mDef 3 b_common
theorem F_common {G : Gd} (M : Mg G) : FnD G 7 (He.ga G.K "common") 3 d_common := by
  obtain ⟨fd, F⟩ := M.d_common
  refine fnD_of (b := b_common) F sc_common (F.bindsN fun _ _ _ _ _ _ us hl => match us, hl with | [_, _, _], _ => rfl) fun cdv A outer sh H E base g => ?_
  exact (ss_cons (s_expr (se_call g (F_require_two M) (by decide) (by rfl) M.g_require_two M.d_require_two.kp (sa_cons (se_var (pv 0)) (sa_cons (se_var (pv 1)) (sa_cons (se_var (pv 2)) sa_nil)))))
  (ss_one (s_ret (se_call g (F_lot_of M) (by decide) (by rfl) M.g_lot_of M.d_lot_of.kp (sa_cons (se_bin op_and sem_band (se_call g (F_bits M) (by decide) (by rfl) M.g_bits M.d_bits.kp (sa_cons (se_var (pv 1)) sa_nil)) (se_call g (F_bits M) (by decide) (by rfl) M.g_bits M.d_bits.kp (sa_cons (se_var (pv 2)) sa_nil))) (sa_cons (se_var (pv 0)) sa_nil))))))
def b__law_word (base : Nat) : MS :=
  (mSeq (mSetV base 2 (mComp (srT (mVar 0)) [3] (gN 3) (mTB (mOp dIn (mVar 3) (mVar 1))) (mVar 3)))
  (mSeq (mIfS (mTB (mOp dEq (mVar 0) (mVar 1))) (mRet (mK (.str "equal"))) mSkip)
  (mSeq (mIfS (mTB (mOp dEq (mVar 2) (mLst aNil))) (mRet (mK (.str "apart"))) mSkip)
  (mSeq (mIfS (mTB (mOp dEq (mBlt cLen (aCons (mVar 2) aNil)) (mBlt cLen (aCons (mVar 0) aNil)))) (mRet (mK (.str "within"))) mSkip)
  (mRet (mIf (mTB (mOp dEq (mBlt cLen (aCons (mVar 2) aNil)) (mBlt cLen (aCons (mVar 1) aNil)))) (mK (.str "around")) (mK (.str "across"))))))))
def d__law_word : Fn := mDef 4 b__law_word
theorem F__law_word {G : Gd} (M : Mg G) : FnD G 1 (He.ga G.K "_law_word") 2 d__law_word := by
  obtain ⟨fd, F⟩ := M.d__law_word
  refine fnD_of (b := b__law_word) F sc__law_word (F.bindsN fun _ _ _ _ _ _ us hl => match us, hl with | [_, _], _ => rfl) fun cdv A outer sh H E base g => ?_
  exact (ss_cons (s_lcV g.calm sc__law_word.nd (i := 2) rfl rfl rfl (si_tup (se_var (pv 0))) (own := [("person", 3)]) (blk_ok (by kernel_rfl)) rfl (fun _ _ _ _ _ => (sg_name sc__law_word.nd (i := 3) rfl (by first | exact .inl rfl | exact .inr rfl) (by decide))) (fun _ _ _ _ _ => (sts_one (st_cmp (op_in2 (g.blk _ _ _ _ _).hu) sem_in (se_var (pv 3)) (se_var (pv 1)) (by with_unfolding_all rfl)))) (fun _ _ _ _ _ => (se_var (pv 3))))
  (ss_cons (s_if (st_cmp (op_eq2 g.hu') sem_eq (se_var (pv 0)) (se_var (pv 1)) (nomark _)) (ss_one (s_ret se_str)) ss_nil)
  (ss_cons (s_if (st_cmp (op_eq2 g.hu') sem_eq (se_var (pv 2)) (se_lst sa_nil) (nomark _)) (ss_one (s_ret se_str)) ss_nil)
  (ss_cons (s_if (st_cmp (op_eq2 g.hu') sem_eq (se_callB call_len sem_len (by rfl) M.b_len bo_len (sa_cons (se_var (pv 2)) sa_nil)) (se_callB call_len sem_len (by rfl) M.b_len bo_len (sa_cons (se_var (pv 0)) sa_nil)) (nomark _)) (ss_one (s_ret se_str)) ss_nil)
  (ss_one (s_ret (se_ifExp (st_cmp (op_eq2 g.hu') sem_eq (se_callB call_len sem_len (by rfl) M.b_len bo_len (sa_cons (se_var (pv 2)) sa_nil)) (se_callB call_len sem_len (by rfl) M.b_len bo_len (sa_cons (se_var (pv 1)) sa_nil)) (nomark _)) se_str se_str)))))))
def b__law_right (base : Nat) : MS :=
  (mSeq (mSetV base 1 (mCall d__law_one_of 2 (aCons (mVar 0) (aCons (mLst (aCons (mK (.int 1)) (aCons (mK (.int 2)) (aCons (mK (.int 4)) (aCons (mK (.int 7)) (aCons (mK (.int 20)) aNil)))))) aNil))))
  (mSeq (mSetV base 2 (mCall d__law_lot 2 (aCons (mVar 0) (aCons (mVar 1) aNil))))
  (mSeq (mSetV base 3 (mCall d__law_one_of 2 (aCons (mVar 0) (aCons (mLst (aCons (mCall d__law_lot 2 (aCons (mVar 0) (aCons (mVar 1) aNil))) (aCons (mCut (mVar 2) (oSome (mK (.int 1))) oNone) (aCons (mVar 2) (aCons (mTupRg (mRg1 (mVar 1))) (aCons (mBlt cTuple (aCons (mComp (srR1 (aCons (mVar 1) aNil)) [10] (gN 10) (mTB (mOp dNotIn (mVar 10) (mVar 2))) (mVar 10)) aNil)) aNil)))))) aNil))))
  (mSeq (mSetV base 4 (mLst (aCons (mCall d_standing 3 (aCons (mVar 1) (aCons (mVar 2) (aCons (mVar 3) aNil)))) (aCons (mCall d_standing 3 (aCons (mVar 1) (aCons (mVar 3) (aCons (mVar 2) aNil)))) (aCons (mCall d_together 3 (aCons (mVar 1) (aCons (mVar 2) (aCons (mVar 3) aNil)))) (aCons (mCall d_common 3 (aCons (mVar 1) (aCons (mVar 2) (aCons (mVar 3) aNil)))) (aCons (mCall d_left_out 2 (aCons (mVar 1) (aCons (mVar 2) aNil))) aNil)))))))
  (mSeq (mSetV base 5 (mLst (aCons (mCall d__law_word 2 (aCons (mVar 2) (aCons (mVar 3) aNil))) (aCons (mCall d__law_word 2 (aCons (mVar 3) (aCons (mVar 2) aNil))) (aCons (mBlt cTuple (aCons (mSortSetT (mOp dAdd (mVar 2) (mVar 3))) aNil)) (aCons (mBlt cTuple (aCons (mComp (srT (mVar 2)) [10] (gN 10) (mTB (mOp dIn (mVar 10) (mVar 3))) (mVar 10)) aNil)) aNil))))))
  (mSeq (mIfS (mTB (mOp dNe (mBlt cRepr (aCons (mVar 4) aNil)) (mBlt cRepr (aCons (mOp dAdd (mVar 5) (mLst (aCons (mBlt cTuple (aCons (mComp (srR1 (aCons (mVar 1) aNil)) [10] (gN 10) (mTB (mOp dNotIn (mVar 10) (mVar 2))) (mVar 10)) aNil)) aNil))) aNil)))) (mRet (mK (.bl false))) mSkip)
  (mSeq (mSetV base 6 (mLst (aCons (mVar 2) (aCons (mBlt cList (aCons (mVar 2) aNil)) (aCons (mRev (mVar 2)) (aCons (mOp dAdd (mVar 2) (mCut (mVar 2) (oSome (mUn dNeg (mK (.int 1)))) oNone)) (aCons (mOp dAdd (mVar 2) (mTup (aCons (mVar 1) aNil))) (aCons (mOp dAdd (mTup (aCons (mUn dNeg (mK (.int 1))) aNil)) (mVar 2)) (aCons (mOp dAdd (mVar 2) (mTup (aCons (mK (.bl true)) aNil))) (aCons (mK .non) (aCons (mK (.int 0)) (aCons (mK (.str "0")) (aCons mDct0 (aCons (mOp dAdd (mVar 2) (mTup (aCons (mK (.str "0")) aNil))) (aCons (mTup (aCons (mK .non) aNil)) (aCons (mTup (aCons (mOp dPow (mK (.int 10)) (mK (.int 60))) aNil)) aNil))))))))))))))))
  (mSeq (mSetO base 7 (mLst aNil))
  (mSeq (mFor (srL (mVar 6)) (gN 8) (mSeq (mSetV base 9 (mAnd (mBlt cIsi (aCons (mVar 8) (aCons (mK (.ty "tuple")) aNil))) (mOp dEq (mComp (srT (mVar 8)) [2] (gN 2) (mOrT (mNotT (mT (mBlt cIsi (aCons (mVar 2) (aCons (mK (.ty "int")) aNil))))) (mT (mBlt cIsi (aCons (mVar 2) (aCons (mK (.ty "bool")) aNil))))) (mVar 2)) (mLst aNil))))
  (mDrop (mMut fAppend (mVar 7) (aCons (mAnd (mVar 9) (mAnd (mOp dEq (mComp (srT (mVar 8)) [2] (gN 2) (mNotT (mTB (mChain dLe dLt (mK (.int 0)) (mVar 2) (mVar 1)))) (mVar 2)) (mLst aNil)) (mOp dEq (mBlt cList (aCons (mVar 8) aNil)) (mSortSetT (mVar 8))))) aNil)))))
  (mRet (mOp dEq (mBlt cRepr (aCons (mComp (srL (mVar 6)) [8] (gN 8) tYesM (mCall d_is_lot 2 (aCons (mVar 1) (aCons (mVar 8) aNil)))) aNil)) (mBlt cRepr (aCons (mVar 7) aNil)))))))))))))
def d__law_right : Fn := mDef 11 b__law_right
theorem F__law_right {G : Gd} (M : Mg G) : FnD G 8 (He.ga G.K "_law_right") 1 d__law_right := by
  obtain ⟨fd, F⟩ := M.d__law_right
  refine fnD_of (b := b__law_right) F sc__law_right (F.bindsN fun _ _ _ _ _ _ us hl => match us, hl with | [_], _ => rfl) fun cdv A outer sh H E base g => ?_
  exact (ss_cons (s_setV sc__law_right.nd (i := 1) rfl (by first | exact .inl rfl | exact .inr rfl) (se_call g (F__law_one_of M) (by decide) (by rfl) M.g__law_one_of M.d__law_one_of.kp (sa_cons (se_var (pv 0)) (sa_cons (se_lst (sa_cons se_int (sa_cons se_int (sa_cons se_int (sa_cons se_int (sa_cons se_int sa_nil)))))) sa_nil))))
  (ss_cons (s_setV sc__law_right.nd (i := 2) rfl (by first | exact .inl rfl | exact .inr rfl) (se_call g (F__law_lot M) (by decide) (by rfl) M.g__law_lot M.d__law_lot.kp (sa_cons (se_var (pv 0)) (sa_cons (se_var (pv 1)) sa_nil))))
  (ss_cons (s_setV sc__law_right.nd (i := 3) rfl (by first | exact .inl rfl | exact .inr rfl) (se_call g (F__law_one_of M) (by decide) (by rfl) M.g__law_one_of M.d__law_one_of.kp (sa_cons (se_var (pv 0)) (sa_cons (se_lst (sa_cons (se_call g (F__law_lot M) (by decide) (by rfl) M.g__law_lot M.d__law_lot.kp (sa_cons (se_var (pv 0)) (sa_cons (se_var (pv 1)) sa_nil))) (sa_cons (se_cut (se_var (pv 2)) (so_some se_int) so_none) (sa_cons (se_var (pv 2)) (sa_cons (se_tupRg g.calm (by rfl) M.b_tuple (sr_1 (by rfl) M.b_range (se_var (pv 1)))) (sa_cons (se_callTy call_tuple_of sem_tuple (by rfl) M.b_tuple bo_tuple (sa_cons (se_comp g.calm sc__law_right.nd (si_range1 (by rfl) M.b_range (sa_cons (se_var (pv 1)) sa_nil)) (own := [("person", 10)]) (blk_ok (by kernel_rfl)) rfl (fun _ _ _ _ _ => (sg_name sc__law_right.nd (i := 10) rfl (by first | exact .inl rfl | exact .inr rfl) (by decide))) (fun _ _ _ _ _ => (sts_one (st_cmp (op_notIn2 (g.blk _ _ _ _ _).hu) sem_notIn (se_var (pv 10)) (se_var (pv 2)) (by with_unfolding_all rfl)))) (fun _ _ _ _ _ => (se_var (pv 10)))) sa_nil)) sa_nil)))))) sa_nil))))
  (ss_cons (s_setV sc__law_right.nd (i := 4) rfl (by first | exact .inl rfl | exact .inr rfl) (se_lst (sa_cons (se_call g (F_standing M) (by decide) (by rfl) M.g_standing M.d_standing.kp (sa_cons (se_var (pv 1)) (sa_cons (se_var (pv 2)) (sa_cons (se_var (pv 3)) sa_nil)))) (sa_cons (se_call g (F_standing M) (by decide) (by rfl) M.g_standing M.d_standing.kp (sa_cons (se_var (pv 1)) (sa_cons (se_var (pv 3)) (sa_cons (se_var (pv 2)) sa_nil)))) (sa_cons (se_call g (F_together M) (by decide) (by rfl) M.g_together M.d_together.kp (sa_cons (se_var (pv 1)) (sa_cons (se_var (pv 2)) (sa_cons (se_var (pv 3)) sa_nil)))) (sa_cons (se_call g (F_common M) (by decide) (by rfl) M.g_common M.d_common.kp (sa_cons (se_var (pv 1)) (sa_cons (se_var (pv 2)) (sa_cons (se_var (pv 3)) sa_nil)))) (sa_cons (se_call g (F_left_out M) (by decide) (by rfl) M.g_left_out M.d_left_out.kp (sa_cons (se_var (pv 1)) (sa_cons (se_var (pv 2)) sa_nil))) sa_nil)))))))
  (ss_cons (s_setV sc__law_right.nd (i := 5) rfl (by first | exact .inl rfl | exact .inr rfl) (se_lst (sa_cons (se_call g (F__law_word M) (by decide) (by rfl) M.g__law_word M.d__law_word.kp (sa_cons (se_var (pv 2)) (sa_cons (se_var (pv 3)) sa_nil))) (sa_cons (se_call g (F__law_word M) (by decide) (by rfl) M.g__law_word M.d__law_word.kp (sa_cons (se_var (pv 3)) (sa_cons (se_var (pv 2)) sa_nil))) (sa_cons (se_callTy call_tuple_of sem_tuple (by rfl) M.b_tuple bo_tuple (sa_cons (se_sortSetT g.calm (by rfl) M.b_sorted (by rfl) M.b_set (se_bin op_add2 sem_add (se_var (pv 2)) (se_var (pv 3)))) sa_nil)) (sa_cons (se_callTy call_tuple_of sem_tuple (by rfl) M.b_tuple bo_tuple (sa_cons (se_comp g.calm sc__law_right.nd (si_tup (se_var (pv 2))) (own := [("person", 10)]) (blk_ok (by kernel_rfl)) rfl (fun _ _ _ _ _ => (sg_name sc__law_right.nd (i := 10) rfl (by first | exact .inl rfl | exact .inr rfl) (by decide))) (fun _ _ _ _ _ => (sts_one (st_cmp (op_in2 (g.blk _ _ _ _ _).hu) sem_in (se_var (pv 10)) (se_var (pv 3)) (by with_unfolding_all rfl)))) (fun _ _ _ _ _ => (se_var (pv 10)))) sa_nil)) sa_nil))))))
  (ss_cons (s_if (st_cmp (op_ne2 g.hu') sem_ne (se_callB (call_repr g.guards g.hu) sem_repr (by rfl) M.b_repr bo_repr (sa_cons (se_var (pv 4)) sa_nil)) (se_callB (call_repr g.guards g.hu) sem_repr (by rfl) M.b_repr bo_repr (sa_cons (se_bin op_add2 sem_add (se_var (pv 5)) (se_lst (sa_cons (se_callTy call_tuple_of sem_tuple (by rfl) M.b_tuple bo_tuple (sa_cons (se_comp g.calm sc__law_right.nd (si_range1 (by rfl) M.b_range (sa_cons (se_var (pv 1)) sa_nil)) (own := [("person", 10)]) (blk_ok (by kernel_rfl)) rfl (fun _ _ _ _ _ => (sg_name sc__law_right.nd (i := 10) rfl (by first | exact .inl rfl | exact .inr rfl) (by decide))) (fun _ _ _ _ _ => (sts_one (st_cmp (op_notIn2 (g.blk _ _ _ _ _).hu) sem_notIn (se_var (pv 10)) (se_var (pv 2)) (by with_unfolding_all rfl)))) (fun _ _ _ _ _ => (se_var (pv 10)))) sa_nil)) sa_nil))) sa_nil)) (nomark _)) (ss_one (s_ret se_bl)) ss_nil)
  (ss_cons (s_setV sc__law_right.nd (i := 6) rfl (by first | exact .inl rfl | exact .inr rfl) (se_lst (sa_cons (se_var (pv 2)) (sa_cons (se_callTy call_list_of sem_list (by rfl) M.b_list bo_list (sa_cons (se_var (pv 2)) sa_nil)) (sa_cons (se_rev (se_var (pv 2))) (sa_cons (se_bin op_add2 sem_add (se_var (pv 2)) (se_cut (se_var (pv 2)) (so_some (se_un un_neg sem_neg se_int)) so_none)) (sa_cons (se_bin op_add2 sem_add (se_var (pv 2)) (se_tup (sa_cons (se_var (pv 1)) sa_nil))) (sa_cons (se_bin op_add2 sem_add (se_tup (sa_cons (se_un un_neg sem_neg se_int) sa_nil)) (se_var (pv 2))) (sa_cons (se_bin op_add2 sem_add (se_var (pv 2)) (se_tup (sa_cons se_bl sa_nil))) (sa_cons se_non (sa_cons se_int (sa_cons se_str (sa_cons se_dct0 (sa_cons (se_bin op_add2 sem_add (se_var (pv 2)) (se_tup (sa_cons se_str sa_nil))) (sa_cons (se_tup (sa_cons se_non sa_nil)) (sa_cons (se_tup (sa_cons (se_bin op_pow sem_pow se_int se_int) sa_nil)) sa_nil))))))))))))))))
  (ss_cons (s_setO sc__law_right.nd (i := 7) rfl (by first | exact .inl rfl | exact .inr rfl) (se_lst sa_nil))
  (ss_cons (s_for (passes_of rfl) g.calm (si_list (se_var (pv 6))) (sg_name sc__law_right.nd (i := 8) rfl (by first | exact .inl rfl | exact .inr rfl) (by decide)) (ss_cons (s_setV sc__law_right.nd (i := 9) rfl (by first | exact .inl rfl | exact .inr rfl) (se_and (se_callB call_isi sem_isi (by rfl) M.b_isinstance bo_isinstance (sa_cons (se_var (pv 8)) (sa_cons (se_ty (by rfl) M.b_tuple bo_tuple) sa_nil))) (se_one (se_cmp (op_eq2 g.hu') sem_eq (se_comp g.calm sc__law_right.nd (si_tup (se_var (pv 8))) (own := [("one", 2)]) (blk_ok (by kernel_rfl)) rfl (fun _ _ _ _ _ => (sg_name sc__law_right.nd (i := 2) rfl (by first | exact .inl rfl | exact .inr rfl) (by decide))) (fun _ _ _ _ _ => (sts_one (sw_or (st_not (st_truth (se_callB call_isi sem_isi (by rfl) M.b_isinstance bo_isinstance (sa_cons (se_var (pv 2)) (sa_cons (se_ty (by rfl) M.b_int bo_int) sa_nil))))) (sw_or1 (st_truth (se_callB call_isi sem_isi (by rfl) M.b_isinstance bo_isinstance (sa_cons (se_var (pv 2)) (sa_cons (se_ty (by rfl) M.b_bool bo_bool) sa_nil)))))).st)) (fun _ _ _ _ _ => (se_var (pv 2)))) (se_lst sa_nil) (nomark _)))))
  (ss_one (s_expr (se_mut PySem.F.slot_list_append PySem.F.type_list_append mt_append sem_append (se_var (pv 7)) (sa_cons (se_and (se_var (pv 9)) (se_and (se_cmp (op_eq2 g.hu') sem_eq (se_comp g.calm sc__law_right.nd (si_tup (se_var (pv 8))) (own := [("one", 2)]) (blk_ok (by kernel_rfl)) rfl (fun _ _ _ _ _ => (sg_name sc__law_right.nd (i := 2) rfl (by first | exact .inl rfl | exact .inr rfl) (by decide))) (fun _ _ _ _ _ => (sts_one (st_not (st_chain op_le op_lt sem_le sem_lt se_int (se_var (pv 2)) (se_var (pv 1)))))) (fun _ _ _ _ _ => (se_var (pv 2)))) (se_lst sa_nil) (nomark _)) (se_one (se_cmp (op_eq2 g.hu') sem_eq (se_callTy call_list_of sem_list (by rfl) M.b_list bo_list (sa_cons (se_var (pv 8)) sa_nil)) (se_sortSetT g.calm (by rfl) M.b_sorted (by rfl) M.b_set (se_var (pv 8))) (nomark _))))) sa_nil))))) (vs := [8]))
  (ss_one (s_ret (se_cmp (op_eq2 g.hu') sem_eq (se_callB (call_repr g.guards g.hu) sem_repr (by rfl) M.b_repr bo_repr (sa_cons (se_comp g.calm sc__law_right.nd (si_list (se_var (pv 6))) (own := [("value", 8)]) (blk_ok (by kernel_rfl)) rfl (fun _ _ _ _ _ => (sg_name sc__law_right.nd (i := 8) rfl (by first | exact .inl rfl | exact .inr rfl) (by decide))) (fun _ _ _ _ _ => sts_nil) (fun _ _ _ _ _ => (se_call (g.blk _ _ _ _ _) (F_is_lot M) (by decide) (by rfl) M.g_is_lot M.d_is_lot.kp (sa_cons (se_var (pv 1)) (sa_cons (se_var (pv 8)) sa_nil))))) sa_nil)) (se_callB (call_repr g.guards g.hu) sem_repr (by rfl) M.b_repr bo_repr (sa_cons (se_var (pv 7)) sa_nil)) (nomark _)))))))))))))
def b_law (base : Nat) : MS :=
  (mSeq (mFor (srR1 (aCons (mBlt cMax2 (aCons (mK (.int 1)) (aCons (mBlt cMin2 (aCons (mK (.int 3)) (aCons (mBlt cLen (aCons (mVar 0) aNil)) aNil))) aNil))) aNil)) (gN 1) (mSeq (mSetO base 3 (mCall d__law_bag 2 (aCons (mVar 0) (aCons (mVar 1) aNil))))
  (mIfS (mTB (mOp dNe (mComp (srR1 (aCons (mK (.int 8)) aNil)) [4] (gN 4) (mNotT (mT (mCall d__law_right 1 (aCons (mVar 3) aNil)))) (mK (.int 1))) (mLst aNil))) (mRet (mK (.bl false))) mSkip)))
  (mSeq (mSetV base 2 (mLst (aCons (mCall d_standing 3 (aCons (mK (.int 5)) (aCons (mTup aNil) (aCons (mTup (aCons (mK (.int 1)) aNil)) aNil)))) (aCons (mCall d_standing 3 (aCons (mK (.int 5)) (aCons (mTup aNil) (aCons (mTup aNil) aNil)))) (aCons (mCall d_standing 3 (aCons (mK (.int 5)) (aCons (mTup (aCons (mK (.int 0)) (aCons (mK (.int 1)) aNil))) (aCons (mTup (aCons (mK (.int 1)) (aCons (mK (.int 2)) aNil))) aNil)))) (aCons (mCall d_left_out 2 (aCons (mK (.int 1)) (aCons (mTup aNil) aNil))) (aCons (mCall d_is_lot 2 (aCons (mK (.int 3)) (aCons (mTup aNil) aNil))) aNil)))))))
  (mRet (mOp dEq (mBlt cRepr (aCons (mVar 2) aNil)) (mBlt cRepr (aCons (mLst (aCons (mK (.str "apart")) (aCons (mK (.str "equal")) (aCons (mK (.str "across")) (aCons (mTup (aCons (mK (.int 0)) aNil)) (aCons (mK (.bl true)) aNil)))))) aNil))))))
def d_law : Fn := mDef 5 b_law
theorem F_law {G : Gd} (M : Mg G) : FnD G 9 (He.ga G.K "law") 1 d_law := by
  obtain ⟨fd, F⟩ := M.d_law
  refine fnD_of (b := b_law) F sc_law (F.bindsN fun _ _ _ _ _ _ us hl => match us, hl with | [_], _ => rfl) fun cdv A outer sh H E base g => ?_
  exact (ss_cons (s_for (passes_of rfl) g.calm (si_range1 (by rfl) M.b_range (sa_cons (se_callB (call_max2 g.calm) sem_max2 (by rfl) M.b_max bo_max (sa_cons se_int (sa_cons (se_callB (call_min2 g.calm) sem_min2 (by rfl) M.b_min bo_min (sa_cons se_int (sa_cons (se_callB call_len sem_len (by rfl) M.b_len bo_len (sa_cons (se_var (pv 0)) sa_nil)) sa_nil))) sa_nil))) sa_nil)) (sg_name sc_law.nd (i := 1) rfl (by first | exact .inl rfl | exact .inr rfl) (by decide)) (ss_cons (s_setO sc_law.nd (i := 3) rfl (by first | exact .inl rfl | exact .inr rfl) (se_call g (F__law_bag M) (by decide) (by rfl) M.g__law_bag M.d__law_bag.kp (sa_cons (se_var (pv 0)) (sa_cons (se_var (pv 1)) sa_nil))))
  (ss_one (s_if (st_cmp (op_ne2 g.hu') sem_ne (se_comp g.calm sc_law.nd (si_range1 (by rfl) M.b_range (sa_cons se_int sa_nil)) (own := [("turn", 4)]) (blk_ok (by kernel_rfl)) rfl (fun _ _ _ _ _ => (sg_name sc_law.nd (i := 4) rfl (by first | exact .inl rfl | exact .inr rfl) (by decide))) (fun _ _ _ _ _ => (sts_one (st_not (st_truth (se_call (g.blk _ _ _ _ _) (F__law_right M) (by decide) (by rfl) M.g__law_right M.d__law_right.kp (sa_cons (se_var (pv 3)) sa_nil)))))) (fun _ _ _ _ _ => se_int)) (se_lst sa_nil) (nomark _)) (ss_one (s_ret se_bl)) ss_nil))) (vs := [1]))
  (ss_cons (s_setV sc_law.nd (i := 2) rfl (by first | exact .inl rfl | exact .inr rfl) (se_lst (sa_cons (se_call g (F_standing M) (by decide) (by rfl) M.g_standing M.d_standing.kp (sa_cons se_int (sa_cons (se_tup sa_nil) (sa_cons (se_tup (sa_cons se_int sa_nil)) sa_nil)))) (sa_cons (se_call g (F_standing M) (by decide) (by rfl) M.g_standing M.d_standing.kp (sa_cons se_int (sa_cons (se_tup sa_nil) (sa_cons (se_tup sa_nil) sa_nil)))) (sa_cons (se_call g (F_standing M) (by decide) (by rfl) M.g_standing M.d_standing.kp (sa_cons se_int (sa_cons (se_tup (sa_cons se_int (sa_cons se_int sa_nil))) (sa_cons (se_tup (sa_cons se_int (sa_cons se_int sa_nil))) sa_nil)))) (sa_cons (se_call g (F_left_out M) (by decide) (by rfl) M.g_left_out M.d_left_out.kp (sa_cons se_int (sa_cons (se_tup sa_nil) sa_nil))) (sa_cons (se_call g (F_is_lot M) (by decide) (by rfl) M.g_is_lot M.d_is_lot.kp (sa_cons se_int (sa_cons (se_tup sa_nil) sa_nil))) sa_nil)))))))
  (ss_one (s_ret (se_cmp (op_eq2 g.hu') sem_eq (se_callB (call_repr g.guards g.hu) sem_repr (by rfl) M.b_repr bo_repr (sa_cons (se_var (pv 2)) sa_nil)) (se_callB (call_repr g.guards g.hu) sem_repr (by rfl) M.b_repr bo_repr (sa_cons (se_lst (sa_cons se_str (sa_cons se_str (sa_cons se_str (sa_cons (se_tup (sa_cons se_int sa_nil)) (sa_cons se_bl sa_nil)))))) sa_nil)) (nomark _))))))
end Lk01

namespace Dv
open PySem PySem.Spec PyProof.Rows L2
set_option autoImplicit false
/-! ### reading denotations -/
theorem var_ok {i : Nat} {ρ : Rho} {S : Store} {d : D} (h : ρ[i]? = some (some d)) (n : isNew d = false) : mVar i ρ S = .ok d S := by
  unfold mVar; rw [h]; simp [n]
theorem take_app {S T : Store} : (S ++ T).take S.length = S := by simp
theorem vw_int {S : Store} {i : Int} : vw S (.int i) = .int i := rfl
theorem vw_loc {S : Store} {n : Nat} {d : D} (h : S[n]? = some (some d)) : vw S (.loc n) = d := by simp [vw, h]
theorem app_get {S T : Store} {n : Nat} {d : D} (h : S[n]? = some (some d)) : (S ++ T)[n]? = some (some d) := by
  rw [List.getElem?_append_left, h]
  rcases Nat.lt_or_ge n S.length with z | z
  · exact z
  · rw [List.getElem?_eq_none z] at h; cases h
theorem get_lt {S : Store} {n : Nat} {d : D} (h : S[n]? = some (some d)) : n < S.length := by
  rcases Nat.lt_or_ge n S.length with z | z
  · exact z
  · rw [List.getElem?_eq_none z] at h; cases h
theorem app_set {S T : Store} {n : Nat} {x : Option D} (h : n < S.length) : (S ++ T).set n x = S.set n x ++ T := List.set_append_left _ _ h
theorem app_set2 {S T : Store} {i : Nat} {x : Option D} : (S ++ T).set (S.length + i) x = S ++ T.set i x := by
  rw [List.set_append_right _ _ (by omega)]; simp
theorem app_get2 {S T : Store} {i : Nat} : (S ++ T)[S.length + i]? = T[i]? := by
  rw [List.getElem?_append_right (by omega)]; simp
/-- a comprehension whose parts change nothing -/
theorem compL_pure {t : Tg} {test : MT} {elt : ME} {ρ : Rho} {S : Store} (p : D → Bool) (f : D → D) : ∀ (ds : List D), (∀ d ∈ ds, ∃ ρ1, t d ρ = some ρ1 ∧ test ρ1 S = .ok (p d) S ∧ (p d = true → elt ρ1 S = .ok (f d) S ∧ plain (f d) = true)) →
    compL t test elt ρ ds S = .ok ((ds.filter p).map fun d => cool (f d)) S
  | [], _ => rfl
  | d :: ds, h => by
    obtain ⟨ρ1, h1, h2, h3⟩ := h d List.mem_cons_self
    have ih := compL_pure p f ds fun e he => h e (List.mem_cons_of_mem _ he)
    simp only [compL, h1, h2]
    cases hp : p d with
    | false => simp [hp, ih]
    | true =>
      obtain ⟨h4, h5⟩ := h3 hp
      simp [hp, h4, h5, ih]
theorem mComp_pure {src : Src} {vs : List Nat} {t : Tg} {test : MT} {elt : ME} {ρ : Rho} {S S1 : Store} {ds : List D} (p : D → Bool) (f : D → D) (hs : src ρ S = .ok ds S1) (hl : ds.length ≤ LINE)
    (h : ∀ d ∈ ds, ∃ ρ1, t d (wipeR ρ vs) = some ρ1 ∧ test ρ1 S1 = .ok (p d) S1 ∧ (p d = true → elt ρ1 S1 = .ok (f d) S1 ∧ plain (f d) = true)) :
    mComp src vs t test elt ρ S = .ok (.lst true ((ds.filter p).map fun d => cool (f d))) S1 := by
  unfold mComp
  rw [hs]
  simp only [bind_ok, compL_pure p f ds h]
  rw [if_pos]
  rw [List.length_map]
  exact Nat.le_trans (List.length_filter_le _ _) hl
/-! ### ints, tuples of ints -/
abbrev tI (ns : List Int) : D := .tup (ns.map .int)
theorem intsOf_map : ∀ ns : List Int, intsOf (ns.map D.int) = some ns
  | [] => rfl
  | n :: ns => by simp [intsOf, intsOf_map ns]
theorem blsOf_map : ∀ ns : List Bool, blsOf (ns.map D.bl) = some ns
  | [] => rfl
  | n :: ns => by simp [blsOf, blsOf_map ns]
theorem toPyL_int : ∀ ns : List Int, toPyL (ns.map D.int) = some (ns.map PyData.int)
  | [] => by simp [toPyL]
  | n :: ns => by simp [toPyL, toPy, toPyL_int ns]
theorem toPy_tI (ns : List Int) : toPy (tI ns) = some (.tuple (ns.map .int)) := by simp [toPy, toPyL_int]
theorem canLay_ints : ∀ ns : List Int, PyData.canLayAll0 (ns.map PyData.int) = true
  | [] => by simp [PyData.canLayAll0]
  | n :: ns => by simp [PyData.canLayAll0, PyData.canLay0, canLay_ints ns]
theorem depth_ints : ∀ ns : List Int, PyData.depthAll (ns.map PyData.int) = 0
  | [] => by simp [PyData.depthAll]
  | n :: ns => by simp [PyData.depthAll, PyData.depth, depth_ints ns]
theorem shaped_int (i : Int) : SeqAt.shaped (.int i) = true := by simp [SeqAt.shaped, PyData.canLay0, PyData.depth]
theorem shaped_tI (ns : List Int) : SeqAt.shaped (.tuple (ns.map .int)) = true := by simp [SeqAt.shaped, PyData.canLay0, canLay_ints, PyData.depth, depth_ints]
theorem shaped_lI (ns : List Int) : SeqAt.shaped (.list (ns.map .int)) = true := by simp [SeqAt.shaped, PyData.canLay0, canLay_ints, PyData.depth, depth_ints]
end Dv
namespace Dv
open PySem PySem.Spec PyProof.Rows L2
set_option autoImplicit false
/-! ### comparisons of data -/
theorem eqv_int (i j : Int) : PyData.eqv (.int i) (.int j) = (i == j) := by simp [PyData.eqv]
theorem eqvAll_ints : ∀ a b : List Int, PyData.eqvAll (a.map .int) (b.map .int) = decide (a = b)
  | [], [] => by simp [PyData.eqvAll]
  | [], y :: ys => by simp [PyData.eqvAll]
  | x :: xs, [] => by simp [PyData.eqvAll]
  | x :: xs, y :: ys => by
    simp only [List.map_cons, PyData.eqvAll, eqv_int, eqvAll_ints xs ys]
    by_cases h : x = y <;> by_cases h2 : xs = ys <;> simp [h, h2]
theorem any_eqv_ints (i : Int) : ∀ ns : List Int, (ns.map PyData.int).any (fun z => PyData.eqv z (.int i)) = decide (i ∈ ns)
  | [] => by simp
  | n :: ns => by
    simp only [List.map_cons, List.any_cons, eqv_int, any_eqv_ints i ns]
    by_cases h : n = i
    · subst h; simp
    · have : ¬ i = n := fun z => h z.symm
      by_cases h2 : i ∈ ns <;> simp [h, h2, this]
theorem pyOf_int (S : Store) (i : Int) : pyOf S (.int i) = some (.int i) := by simp [pyOf, vw, toPy, shaped_int]
theorem pyOf_tI (S : Store) (ns : List Int) : pyOf S (tI ns) = some (.tuple (ns.map .int)) := by simp [pyOf, vw, toPy_tI, shaped_tI]
theorem pyOf_lI (S : Store) (f : Bool) (ns : List Int) : pyOf S (.lst f (ns.map .int)) = some (.list (ns.map .int)) := by simp [pyOf, vw, toPy, toPyL_int, shaped_lI]
theorem inD_tI (S : Store) (i : Int) (ns : List Int) : inD S (.int i) (tI ns) = some (decide (i ∈ ns)) := by
  simp only [inD, pyOf_int, pySeq, pyOf_tI, any_eqv_ints]
theorem eqD_tI (S : Store) (a b : List Int) : eqD S (tI a) (tI b) = some (decide (a = b)) := by
  simp [eqD, vw, pyOf_tI, PyData.eqv, eqvAll_ints]
theorem eqD_lI (S : Store) (f g : Bool) (a b : List Int) : eqD S (.lst f (a.map .int)) (.lst g (b.map .int)) = some (decide (a = b)) := by
  simp [eqD, vw, pyOf_lI, PyData.eqv, eqvAll_ints]
theorem eqD_lI_nil (S : Store) (f g : Bool) (a : List Int) : eqD S (.lst f (a.map .int)) (.lst g []) = some (decide (a = [])) := eqD_lI S f g a []
/-! ### sizes of texts -/
theorem isNew_map_int (f : Bool) (ns : List Int) : isNew (tI ns) = false := rfl
/-- short data: what may be shown -/
structure Sh (w n : Nat) (p : PyData) : Prop where
  show_ : p.showable = true
  noD : p.hasDict = false
  dep : p.depth ≤ n
  leaf : p.leavesShort 13 = true
  wt : p.weight ≤ w
structure ShA (w n : Nat) (ps : List PyData) : Prop where
  show_ : PyData.showableAll ps = true
  noD : PyData.hasDictAll ps = false
  dep : PyData.depthAll ps ≤ n
  leaf : PyData.leavesShortAll 13 ps = true
  wt : PyData.weightAll ps ≤ w
theorem ShA.nil {w n : Nat} : ShA w n [] := ⟨by simp [PyData.showableAll], by simp [PyData.hasDictAll], by simp [PyData.depthAll], by simp [PyData.leavesShortAll], by simp [PyData.weightAll]⟩
theorem ShA.cons {w w1 w2 n : Nat} {p : PyData} {ps : List PyData} (h : Sh w1 n p) (h2 : ShA w2 n ps) (hw : w1 + 1 + w2 ≤ w) : ShA w n (p :: ps) := by
  have a := h.wt
  have b := h2.wt
  refine ⟨by simp [PyData.showableAll, h.show_, h2.show_], by simp [PyData.hasDictAll, h.noD, h2.noD], ?_, by simp [PyData.leavesShortAll, h.leaf, h2.leaf], ?_⟩
  · simp only [PyData.depthAll]; exact Nat.max_le.mpr ⟨h.dep, h2.dep⟩
  · simp only [PyData.weightAll]; omega
theorem ShA.list {w n : Nat} {ps : List PyData} (h : ShA w n ps) : Sh w (n + 1) (.list ps) :=
  ⟨by simp [PyData.showable, h.show_], by simp [PyData.hasDict, h.noD], by simp [PyData.depth, h.dep], by simp [PyData.leavesShort, h.leaf], by simp [PyData.weight, h.wt]⟩
theorem ShA.tuple {w n : Nat} {ps : List PyData} (h : ShA w n ps) : Sh w (n + 1) (.tuple ps) :=
  ⟨by simp [PyData.showable, h.show_], by simp [PyData.hasDict, h.noD], by simp [PyData.depth, h.dep], by simp [PyData.leavesShort, h.leaf], by simp [PyData.weight, h.wt]⟩
theorem Sh.mono {w w' n n' : Nat} {p : PyData} (h : Sh w n p) (hw : w ≤ w') (hn : n ≤ n') : Sh w' n' p := ⟨h.show_, h.noD, Nat.le_trans h.dep hn, h.leaf, Nat.le_trans h.wt hw⟩
theorem Sh.ok {w n : Nat} {p : PyData} (h : Sh w n p) (hd : isDisp p = true) (hw : w ≤ 1048576) (hn : n ≤ 60) : showOk p = true := by
  have fit := PyData.shown_fits (B := 13) (by decide) (by decide) h.leaf (by have := h.wt; omega)
  rw [line_eq] at fit
  have := h.dep
  simp only [showOk, hd, h.show_, h.noD, Bool.not_false, Bool.and_self, Bool.true_and, Bool.and_eq_true, decide_eq_true_eq]
  exact ⟨by omega, fit⟩
theorem Sh.bl {n : Nat} (b : Bool) : Sh 0 n (.bool b) := ⟨by simp [PyData.showable], by simp [PyData.hasDict], by simp [PyData.depth], by simp [PyData.leavesShort], by simp [PyData.weight]⟩
theorem Sh.non {n : Nat} : Sh 0 n .none := ⟨by simp [PyData.showable], by simp [PyData.hasDict], by simp [PyData.depth], by simp [PyData.leavesShort], by simp [PyData.weight]⟩
/-- an int of few digits -/
theorem sh_small : ∀ k : Nat, k < 64 → (PyData.shown (.int (k : Int))).length ≤ 13 ∧ (PyData.shown (.int (-(k : Int)))).length ≤ 13 := by decide +kernel
theorem Sh.int {n : Nat} {i : Int} (h : -64 < i) (h2 : i < 64) : Sh 7 n (.int i) := by
  have hl : i.natAbs.log2 < 7 := by
    rcases Nat.eq_zero_or_pos i.natAbs with z | z
    · rw [z]; decide
    · exact (Nat.log2_lt (by omega)).mpr (by omega)
  refine ⟨by simp only [PyData.showable, decide_eq_true_eq]; omega, by simp [PyData.hasDict], by simp [PyData.depth], ?_, ?_⟩
  · simp only [PyData.leavesShort, decide_eq_true_eq]
    obtain ⟨a, b⟩ := sh_small i.natAbs (by omega)
    rcases Int.natAbs_eq i with e | e
    · rw [e]; exact a
    · rw [e]; exact b
  · simp only [PyData.weight]
    split
    · omega
    · omega
theorem ShA.ints {n : Nat} : ∀ {ns : List Int}, (∀ i ∈ ns, -64 < i ∧ i < 64) → ShA (8 * ns.length) n (ns.map .int)
  | [], _ => .nil
  | i :: ns, h => ShA.cons (Sh.int (h i List.mem_cons_self).1 (h i List.mem_cons_self).2) (ShA.ints fun j hj => h j (List.mem_cons_of_mem _ hj)) (by simp only [List.length_cons]; omega)
end Dv

namespace Dv
open PySem PySem.Spec PyProof.Rows L2
set_option autoImplicit false
/-! ### denotations, one step at a time: equations for simp -/
theorem bind_cong {α β : Type} {r r' : Res α} (h : r = r') (k : α → Store → Res β) : r.bind k = r'.bind k := by rw [h]
theorem bindE_cong {α : Type} {r r' : Res α} (h : r = r') (ρ : Rho) (k : α → Store → ResS) : bindE r ρ k = bindE r' ρ k := by rw [h]
section
variable {ρ : Rho} {S S1 : Store} {m n o : ME} {a : MA} {c t u : MT} {f g : Store → D → D → Option D} {f1 : Store → D → Option D} {fc : Store → List D → Option D}
def varR (x : Option (Option D)) (S : Store) : Res D := match x with
  | some (some d) => if isNew d then .bad else .ok d S
  | _ => .bad
@[simp] theorem varR_some (d : D) : varR (some (some d)) S = if isNew d then .bad else .ok d S := rfl
@[simp] theorem ev_var {i : Nat} : mVar i ρ S = varR ρ[i]? S := by
  unfold mVar varR
  cases ρ[i]? with
  | none => rfl
  | some x => cases x <;> rfl
@[simp] theorem ev_k {d : D} : mK d ρ S = .ok d S := rfl
def kOp2 (f : Store → D → D → Option D) (d e : D) (S2 : Store) : Res D := opt (f S2 d e) S2
def kOp1 (f : Store → D → D → Option D) (n : ME) (ρ : Rho) (d : D) (S1 : Store) : Res D := (n ρ S1).bind (kOp2 f d)
@[simp] theorem kOp2_eq {d e : D} : kOp2 f d e S = opt (f S d e) S := rfl
@[simp] theorem kOp1_eq {d : D} : kOp1 f n ρ d S = (n ρ S).bind (kOp2 f d) := rfl
@[simp] theorem ev_op : mOp f m n ρ S = (m ρ S).bind (kOp1 f n ρ) := rfl
def kUn (f : Store → D → Option D) (d : D) (S1 : Store) : Res D := opt (f S1 d) S1
@[simp] theorem kUn_eq {d : D} : kUn f1 d S = opt (f1 S d) S := rfl
@[simp] theorem ev_un : mUn f1 m ρ S = (m ρ S).bind (kUn f1) := rfl
def kBlt (f : Store → List D → Option D) (d : List D) (S1 : Store) : Res D := opt (f S1 d) S1
@[simp] theorem kBlt_eq {d : List D} : kBlt fc d S = opt (fc S d) S := rfl
@[simp] theorem ev_blt : mBlt fc a ρ S = (a ρ S).bind (kBlt fc) := rfl
@[simp] theorem ev_aNil : aNil ρ S = .ok [] S := rfl
def kA2 (d : D) (ds : List D) (S2 : Store) : Res (List D) := .ok (d :: ds) S2
def kA1 (a : MA) (ρ : Rho) (d : D) (S1 : Store) : Res (List D) := (a ρ S1).bind (kA2 d)
@[simp] theorem kA2_eq {d : D} {ds : List D} : kA2 d ds S = .ok (d :: ds) S := rfl
@[simp] theorem kA1_eq {d : D} : kA1 a ρ d S = (a ρ S).bind (kA2 d) := rfl
@[simp] theorem ev_aCons : aCons m a ρ S = (m ρ S).bind (kA1 a ρ) := rfl
@[simp] theorem opt_some (x : D) : opt (some x) S = .ok x S := rfl
@[simp] theorem optB_some (b : Bool) : optB (some b) S = .ok b S := rfl
def kT (d : D) (S1 : Store) : Res Bool := optB (truD S1 d) S1
@[simp] theorem kT_eq {d : D} : kT d S = optB (truD S d) S := rfl
@[simp] theorem ev_T : mT m ρ S = (m ρ S).bind kT := rfl
def tbR (d : D) (S : Store) : Res Bool := match d with
  | .bl b => .ok b S
  | _ => .bad
@[simp] theorem tbR_bl (b : Bool) : tbR (.bl b) S = .ok b S := rfl
@[simp] theorem ev_TB : mTB m ρ S = (m ρ S).bind tbR := rfl
def kAndT (t : MT) (ρ : Rho) (b : Bool) (S1 : Store) : Res Bool := if b then t ρ S1 else .ok false S1
def kOrT (t : MT) (ρ : Rho) (b : Bool) (S1 : Store) : Res Bool := if b then .ok true S1 else t ρ S1
def kNotT (b : Bool) (S1 : Store) : Res Bool := .ok (!b) S1
@[simp] theorem kAndT_eq {b : Bool} : kAndT t ρ b S = if b then t ρ S else .ok false S := rfl
@[simp] theorem kOrT_eq {b : Bool} : kOrT t ρ b S = if b then .ok true S else t ρ S := rfl
@[simp] theorem kNotT_eq {b : Bool} : kNotT b S = .ok (!b) S := rfl
@[simp] theorem ev_AndT : mAndT c t ρ S = (c ρ S).bind (kAndT t ρ) := rfl
@[simp] theorem ev_OrT : mOrT c t ρ S = (c ρ S).bind (kOrT t ρ) := rfl
@[simp] theorem ev_NotT : mNotT c ρ S = (c ρ S).bind kNotT := rfl
def oAnd (o : Option Bool) (n : ME) (ρ : Rho) (d : D) (S : Store) : Res D := match o with
  | some true => n ρ S
  | some false => .ok d S
  | none => .bad
def oOr (o : Option Bool) (n : ME) (ρ : Rho) (d : D) (S : Store) : Res D := match o with
  | some true => .ok d S
  | some false => n ρ S
  | none => .bad
def oNot (o : Option Bool) (S : Store) : Res D := match o with
  | some b => .ok (.bl (!b)) S
  | none => .bad
@[simp] theorem oAnd_some {b : Bool} {d : D} : oAnd (some b) n ρ d S = if b then n ρ S else .ok d S := by cases b <;> rfl
@[simp] theorem oOr_some {b : Bool} {d : D} : oOr (some b) n ρ d S = if b then .ok d S else n ρ S := by cases b <;> rfl
@[simp] theorem oNot_some {b : Bool} : oNot (some b) S = .ok (.bl (!b)) S := rfl
def kAnd (n : ME) (ρ : Rho) (d : D) (S1 : Store) : Res D := oAnd (truD S1 d) n ρ d S1
def kOr (n : ME) (ρ : Rho) (d : D) (S1 : Store) : Res D := oOr (truD S1 d) n ρ d S1
def kNot (d : D) (S1 : Store) : Res D := oNot (truD S1 d) S1
@[simp] theorem kAnd_eq {d : D} : kAnd n ρ d S = oAnd (truD S d) n ρ d S := rfl
@[simp] theorem kOr_eq {d : D} : kOr n ρ d S = oOr (truD S d) n ρ d S := rfl
@[simp] theorem kNot_eq {d : D} : kNot d S = oNot (truD S d) S := rfl
@[simp] theorem ev_And : mAnd m n ρ S = (m ρ S).bind (kAnd n ρ) := rfl
@[simp] theorem ev_Or : mOr m n ρ S = (m ρ S).bind (kOr n ρ) := rfl
@[simp] theorem ev_Not : mNot m ρ S = (m ρ S).bind kNot := rfl
def kIf (m n : ME) (ρ : Rho) (b : Bool) (S1 : Store) : Res D := if b then m ρ S1 else n ρ S1
@[simp] theorem kIf_eq {b : Bool} : kIf m n ρ b S = if b then m ρ S else n ρ S := rfl
@[simp] theorem ev_If : mIf c m n ρ S = (c ρ S).bind (kIf m n ρ) := rfl
def kIsN (d : D) (S1 : Store) : Res D := .ok (.bl (isN d)) S1
def kNotN (d : D) (S1 : Store) : Res D := .ok (.bl (!isN d)) S1
@[simp] theorem kIsN_eq {d : D} : kIsN d S = .ok (.bl (isN d)) S := rfl
@[simp] theorem kNotN_eq {d : D} : kNotN d S = .ok (.bl (!isN d)) S := rfl
@[simp] theorem ev_isN : mIsN m ρ S = (m ρ S).bind kIsN := rfl
@[simp] theorem ev_notN : mNotN m ρ S = (m ρ S).bind kNotN := rfl
def kCh3 (g : Store → D → D → Option D) (e x : D) (S3 : Store) : Res D := opt (g S3 e x) S3
def chR (r : Option D) (g : Store → D → D → Option D) (o : ME) (ρ : Rho) (e : D) (S : Store) : Res D := match r with
  | some (.bl true) => (o ρ S).bind (kCh3 g e)
  | some (.bl false) => .ok (.bl false) S
  | _ => .bad
@[simp] theorem kCh3_eq {e x : D} : kCh3 g e x S = opt (g S e x) S := rfl
@[simp] theorem chR_bl {b : Bool} {e : D} : chR (some (.bl b)) g o ρ e S = if b then (o ρ S).bind (kCh3 g e) else .ok (.bl false) S := by cases b <;> rfl
def kCh2 (f g : Store → D → D → Option D) (o : ME) (ρ : Rho) (d e : D) (S2 : Store) : Res D := chR (f S2 d e) g o ρ e S2
def kCh1 (f g : Store → D → D → Option D) (n o : ME) (ρ : Rho) (d : D) (S1 : Store) : Res D := (n ρ S1).bind (kCh2 f g o ρ d)
@[simp] theorem kCh2_eq {d e : D} : kCh2 f g o ρ d e S = chR (f S d e) g o ρ e S := rfl
@[simp] theorem kCh1_eq {d : D} : kCh1 f g n o ρ d S = (n ρ S).bind (kCh2 f g o ρ d) := rfl
@[simp] theorem ev_chain : mChain f g m n o ρ S = (m ρ S).bind (kCh1 f g n o ρ) := rfl
def kTup (ds : List D) (S1 : Store) : Res D := if plainL ds && decide (ds.length ≤ LINE) then .ok (.tup (coolL ds)) S1 else .bad
def kLst (ds : List D) (S1 : Store) : Res D := if plainL ds && decide (ds.length ≤ LINE) then .ok (.lst true (coolL ds)) S1 else .bad
@[simp] theorem kTup_eq {ds : List D} : kTup ds S = if plainL ds && decide (ds.length ≤ LINE) then .ok (.tup (coolL ds)) S else .bad := rfl
@[simp] theorem kLst_eq {ds : List D} : kLst ds S = if plainL ds && decide (ds.length ≤ LINE) then .ok (.lst true (coolL ds)) S else .bad := rfl
@[simp] theorem ev_tup : mTup a ρ S = (a ρ S).bind kTup := rfl
@[simp] theorem ev_lst : mLst a ρ S = (a ρ S).bind kLst := rfl
def kCall (fn : Fn) (k : Nat) (ds : List D) (S1 : Store) : Res D := if argsOk ds && decide (ds.length = k) then fn (coolA ds) S1 else .bad
@[simp] theorem kCall_eq {fn : Fn} {k : Nat} {ds : List D} : kCall fn k ds S = if argsOk ds && decide (ds.length = k) then fn (coolA ds) S else .bad := rfl
@[simp] theorem ev_call {fn : Fn} {k : Nat} : mCall fn k a ρ S = (a ρ S).bind (kCall fn k) := rfl
def kCut3 (d : D) (lo hi : Option Int) (S3 : Store) : Res D := opt (dCut S3 d lo hi) S3
def kCut2 (h : MO) (ρ : Rho) (d : D) (lo : Option Int) (S2 : Store) : Res D := (h ρ S2).bind (kCut3 d lo)
def kCut1 (l h : MO) (ρ : Rho) (d : D) (S1 : Store) : Res D := (l ρ S1).bind (kCut2 h ρ d)
@[simp] theorem kCut3_eq {d : D} {lo hi : Option Int} : kCut3 d lo hi S = opt (dCut S d lo hi) S := rfl
@[simp] theorem kCut2_eq {h : MO} {d : D} {lo : Option Int} : kCut2 h ρ d lo S = (h ρ S).bind (kCut3 d lo) := rfl
@[simp] theorem kCut1_eq {l h : MO} {d : D} : kCut1 l h ρ d S = (l ρ S).bind (kCut2 h ρ d) := rfl
@[simp] theorem ev_cut {l h : MO} : mCut m l h ρ S = (m ρ S).bind (kCut1 l h ρ) := rfl
@[simp] theorem ev_oNone : oNone ρ S = .ok none S := rfl
def oR (d : D) (S : Store) : Res (Option Int) := match d with
  | .int i => .ok (some i) S
  | _ => .bad
@[simp] theorem oR_int (i : Int) : oR (.int i) S = .ok (some i) S := rfl
@[simp] theorem ev_oSome : oSome m ρ S = (m ρ S).bind oR := rfl
def kRev (d : D) (S1 : Store) : Res D := opt (dRev S1 d) S1
@[simp] theorem kRev_eq {d : D} : kRev d S = opt (dRev S d) S := rfl
@[simp] theorem ev_rev : mRev m ρ S = (m ρ S).bind kRev := rfl
@[simp] theorem ev_dct0 : mDct0 ρ S = .ok (.dct true []) S := rfl
/-! statements -/
def seqR (r : ResS) (n : MS) : ResS := match r with
  | .nx ρ' S' => n ρ' S'
  | r => r
@[simp] theorem seqR_nx (ρ : Rho) (S : Store) (n : MS) : seqR (.nx ρ S) n = n ρ S := rfl
@[simp] theorem seqR_rt (d : D) (S : Store) (n : MS) : seqR (.rt d S) n = .rt d S := rfl
@[simp] theorem seqR_exc (c : Nat) (fs : List D) (ρ : Rho) (S : Store) (n : MS) : seqR (.exc c fs ρ S) n = .exc c fs ρ S := rfl
@[simp] theorem seqR_ct (ρ : Rho) (S : Store) (n : MS) : seqR (.ct ρ S) n = .ct ρ S := rfl
@[simp] theorem seqR_bk (ρ : Rho) (S : Store) (n : MS) : seqR (.bk ρ S) n = .bk ρ S := rfl
@[simp] theorem ev_seq {m n : MS} : mSeq m n ρ S = seqR (m ρ S) n := by
  unfold mSeq seqR
  cases m ρ S <;> rfl
@[simp] theorem ev_skip : mSkip ρ S = .nx ρ S := rfl
@[simp] theorem ev_break : mBreak ρ S = .bk ρ S := rfl
@[simp] theorem ev_cont : mCont ρ S = .ct ρ S := rfl
@[simp] theorem ev_ret : mRet m ρ S = bindE (m ρ S) ρ ResS.rt := rfl
@[simp] theorem ev_retN : mRetN ρ S = .rt .non S := rfl
def kDrop (ρ : Rho) (_ : D) (S1 : Store) : ResS := .nx ρ S1
@[simp] theorem kDrop_eq {d : D} : kDrop ρ d S = .nx ρ S := rfl
@[simp] theorem ev_drop : mDrop m ρ S = bindE (m ρ S) ρ (kDrop ρ) := rfl
def kIfS (m n : MS) (ρ : Rho) (b : Bool) (S1 : Store) : ResS := if b then m ρ S1 else n ρ S1
@[simp] theorem kIfS_eq {m n : MS} {b : Bool} : kIfS m n ρ b S = if b then m ρ S else n ρ S := rfl
@[simp] theorem ev_ifS {m n : MS} : mIfS c m n ρ S = bindE (c ρ S) ρ (kIfS m n ρ) := rfl
def kSetV (b i : Nat) (ρ : Rho) (d : D) (S1 : Store) : ResS := holdV b i d ρ S1
def kSetO (b i : Nat) (ρ : Rho) (d : D) (S1 : Store) : ResS := holdO b i d ρ S1
@[simp] theorem kSetV_eq {b i : Nat} {d : D} : kSetV b i ρ d S = holdV b i d ρ S := rfl
@[simp] theorem kSetO_eq {b i : Nat} {d : D} : kSetO b i ρ d S = holdO b i d ρ S := rfl
@[simp] theorem ev_setV {b i : Nat} : mSetV b i m ρ S = bindE (m ρ S) ρ (kSetV b i ρ) := rfl
@[simp] theorem ev_setO {b i : Nat} : mSetO b i m ρ S = bindE (m ρ S) ρ (kSetO b i ρ) := rfl
def kIx3 (ρ : Rho) (d c j : D) (S3 : Store) : ResS := setAt ρ S3 c j d
def kIx2 (i : ME) (ρ : Rho) (d c : D) (S2 : Store) : ResS := bindE (i ρ S2) ρ (kIx3 ρ d c)
def kIx1 (o i : ME) (ρ : Rho) (d : D) (S1 : Store) : ResS := bindE (o ρ S1) ρ (kIx2 i ρ d)
@[simp] theorem kIx3_eq {d e j : D} : kIx3 ρ d e j S = setAt ρ S e j d := rfl
@[simp] theorem kIx2_eq {i : ME} {d e : D} : kIx2 i ρ d e S = bindE (i ρ S) ρ (kIx3 ρ d e) := rfl
@[simp] theorem kIx1_eq {o i : ME} {d : D} : kIx1 o i ρ d S = bindE (o ρ S) ρ (kIx2 i ρ d) := rfl
@[simp] theorem ev_setIx {o i : ME} : mSetIx m o i ρ S = bindE (m ρ S) ρ (kIx1 o i ρ) := rfl
def kPar3 (b j : Nat) (oj : Bool) (e : D) (ρ1 : Rho) (S3 : Store) : ResS := if oj then holdO b j e ρ1 S3 else holdV b j e ρ1 S3
def kPar2 (b i j : Nat) (oj : Bool) (ρ : Rho) (d e : D) (S2 : Store) : ResS := seqR (holdV b i d ρ S2) (kPar3 b j oj e)
def kPar1 (b i j : Nat) (oj : Bool) (n : ME) (ρ : Rho) (d : D) (S1 : Store) : ResS := bindE (n ρ S1) ρ (kPar2 b i j oj ρ d)
@[simp] theorem kPar3_eq {b j : Nat} {oj : Bool} {e : D} : kPar3 b j oj e ρ S = if oj then holdO b j e ρ S else holdV b j e ρ S := rfl
@[simp] theorem kPar2_eq {b i j : Nat} {oj : Bool} {d e : D} : kPar2 b i j oj ρ d e S = seqR (holdV b i d ρ S) (kPar3 b j oj e) := rfl
@[simp] theorem kPar1_eq {b i j : Nat} {oj : Bool} {d : D} : kPar1 b i j oj n ρ d S = bindE (n ρ S) ρ (kPar2 b i j oj ρ d) := rfl
@[simp] theorem ev_par {b i j : Nat} {oj : Bool} : mPar b i j oj m n ρ S = bindE (m ρ S) ρ (kPar1 b i j oj n ρ) := rfl
def kFor (tg : Tg) (b : MS) (ρ : Rho) (ds : List D) (S1 : Store) : ResS := forL tg b ds ρ S1
@[simp] theorem kFor_eq {tg : Tg} {b : MS} {ds : List D} : kFor tg b ρ ds S = forL tg b ds ρ S := rfl
@[simp] theorem ev_for {src : Src} {tg : Tg} {b : MS} : mFor src tg b ρ S = bindE (src ρ S) ρ (kFor tg b ρ) := rfl
@[simp] theorem hV_int {b i : Nat} (k : Int) : holdV b i (.int k) ρ S = .nx (ρ.set i (some (.int k))) S := rfl
@[simp] theorem hV_bl {b i : Nat} (k : Bool) : holdV b i (.bl k) ρ S = .nx (ρ.set i (some (.bl k))) S := rfl
@[simp] theorem hV_str {b i : Nat} (k : Str) : holdV b i (.str k) ρ S = .nx (ρ.set i (some (.str k))) S := rfl
@[simp] theorem hV_non {b i : Nat} : holdV b i .non ρ S = .nx (ρ.set i (some .non)) S := rfl
@[simp] theorem hV_tup {b i : Nat} (xs : List D) : holdV b i (.tup xs) ρ S = .nx (ρ.set i (some (.tup xs))) S := rfl
@[simp] theorem hV_lst {b i : Nat} (k : Bool) (xs : List D) : holdV b i (.lst k xs) ρ S = .nx (ρ.set i (some (.lst false xs))) S := rfl
/-! sources, comprehensions -/
def kR1 (ds : List D) (S1 : Store) : Res (List D) := match ds with
  | [.int j] => if j ≤ 16777216 ∧ -16777216 ≤ j then .ok (rngD 0 j.toNat) S1 else .bad
  | _ => .bad
@[simp] theorem kR1_int (j : Int) : kR1 [.int j] S = if j ≤ 16777216 ∧ -16777216 ≤ j then .ok (rngD 0 j.toNat) S else .bad := rfl
@[simp] theorem ev_srR1 : srR1 a ρ S = (a ρ S).bind kR1 := rfl
def kR2 (ds : List D) (S1 : Store) : Res (List D) := match ds with
  | [.int i, .int j] => if j ≤ 16777216 ∧ -16777216 ≤ j ∧ i ≤ 16777216 ∧ -16777216 ≤ i then .ok (rngD i (j - i).toNat) S1 else .bad
  | _ => .bad
@[simp] theorem kR2_int (i j : Int) : kR2 [.int i, .int j] S = if j ≤ 16777216 ∧ -16777216 ≤ j ∧ i ≤ 16777216 ∧ -16777216 ≤ i then .ok (rngD i (j - i).toNat) S else .bad := rfl
@[simp] theorem ev_srR2 : srR2 a ρ S = (a ρ S).bind kR2 := rfl
def kL (d : D) (S1 : Store) : Res (List D) := match d with
  | .lst _ xs => .ok xs S1
  | .rol xs => .ok xs S1
  | _ => .bad
@[simp] theorem kL_lst (f : Bool) (xs : List D) : kL (.lst f xs) S = .ok xs S := rfl
@[simp] theorem kL_rol (xs : List D) : kL (.rol xs) S = .ok xs S := rfl
@[simp] theorem ev_srL : srL m ρ S = (m ρ S).bind kL := rfl
def kTu (d : D) (S1 : Store) : Res (List D) := match d with
  | .tup xs => .ok xs S1
  | _ => .bad
@[simp] theorem kTu_tup (xs : List D) : kTu (.tup xs) S = .ok xs S := rfl
@[simp] theorem ev_srT : srT m ρ S = (m ρ S).bind kTu := rfl
def kE (ds : List D) (S1 : Store) : Res (List D) := match ds with
  | [.lst _ xs] => .ok (enumFrom 0 xs) S1
  | [.rol xs] => .ok (enumFrom 0 xs) S1
  | _ => .bad
@[simp] theorem kE_lst (f : Bool) (xs : List D) : kE [.lst f xs] S = .ok (enumFrom 0 xs) S := rfl
@[simp] theorem ev_srE : srE a ρ S = (a ρ S).bind kE := rfl
def kZ (ds : List D) (S1 : Store) : Res (List D) := match ds with
  | [.lst _ xs, .lst _ ys] => .ok (zipD xs ys) S1
  | [.tup xs, .tup ys] => .ok (zipD xs ys) S1
  | _ => .bad
@[simp] theorem kZ_lst (f g : Bool) (xs ys : List D) : kZ [.lst f xs, .lst g ys] S = .ok (zipD xs ys) S := rfl
@[simp] theorem kZ_tup (xs ys : List D) : kZ [.tup xs, .tup ys] S = .ok (zipD xs ys) S := rfl
@[simp] theorem ev_srZ : srZ a ρ S = (a ρ S).bind kZ := rfl
def cpR (r : Res (List D)) : Res D := match r with
  | .ok ys S2 => if ys.length ≤ LINE then .ok (.lst true ys) S2 else .bad
  | _ => .bad
@[simp] theorem cpR_ok (ys : List D) : cpR (.ok ys S) = if ys.length ≤ LINE then .ok (.lst true ys) S else .bad := rfl
def kComp (vs : List Nat) (t : Tg) (test : MT) (elt : ME) (ρ : Rho) (ds : List D) (S1 : Store) : Res D := cpR (compL t test elt (wipeR ρ vs) ds S1)
@[simp] theorem kComp_eq {vs : List Nat} {tg : Tg} {test : MT} {elt : ME} {ds : List D} : kComp vs tg test elt ρ ds S = cpR (compL tg test elt (wipeR ρ vs) ds S) := rfl
@[simp] theorem ev_comp {src : Src} {vs : List Nat} {tg : Tg} {test : MT} {elt : ME} : mComp src vs tg test elt ρ S = (src ρ S).bind (kComp vs tg test elt ρ) := rfl
def kTupRg (d : Int × Int) (S1 : Store) : Res D := if rgFine d.1 d.2 then .ok (.tup (rgD d.1 d.2)) S1 else .bad
@[simp] theorem kTupRg_eq (d : Int × Int) : kTupRg d S = if rgFine d.1 d.2 then .ok (.tup (rgD d.1 d.2)) S else .bad := rfl
@[simp] theorem ev_tupRg {r : Rho → Store → Res (Int × Int)} : mTupRg r ρ S = (r ρ S).bind kTupRg := rfl
def kLstRg (d : Int × Int) (S1 : Store) : Res D := if rgFine d.1 d.2 then .ok (.lst true (rgD d.1 d.2)) S1 else .bad
@[simp] theorem kLstRg_eq (d : Int × Int) : kLstRg d S = if rgFine d.1 d.2 then .ok (.lst true (rgD d.1 d.2)) S else .bad := rfl
@[simp] theorem ev_lstRg {r : Rho → Store → Res (Int × Int)} : mLstRg r ρ S = (r ρ S).bind kLstRg := rfl
def kRg1 (d : D) (S1 : Store) : Res (Int × Int) := match d with
  | .int n => .ok (0, n) S1
  | _ => .bad
@[simp] theorem kRg1_int (n : Int) : kRg1 (.int n) S = .ok (0, n) S := rfl
@[simp] theorem ev_rg1 : mRg1 m ρ S = (m ρ S).bind kRg1 := rfl
def kSST (d : D) (S1 : Store) : Res D := match vw S1 d with
  | .tup xs => match intsOf xs with
    | some ns => if decide (ns.length ≤ 1000) && decide ((usort ns).length < 64) then .ok (.lst true ((usort ns).map .int)) S1 else .bad
    | none => .bad
  | _ => .bad
@[simp] theorem kSST_tup (ns : List Int) : kSST (tI ns) S = if decide (ns.length ≤ 1000) && decide ((usort ns).length < 64) then .ok (.lst true ((usort ns).map .int)) S else .bad := by
  simp only [kSST, vw, intsOf_map]
@[simp] theorem ev_SST : mSortSetT m ρ S = (m ρ S).bind kSST := rfl
theorem compL_map {t : Tg} {elt : ME} {ρ : Rho} {S : Store} (f : D → D) : ∀ (ds : List D), (∀ d ∈ ds, ∃ ρ1, t d ρ = some ρ1 ∧ elt ρ1 S = .ok (f d) S ∧ Dv.plain (f d) = true) →
    compL t tYesM elt ρ ds S = .ok (ds.map fun d => Dv.cool (f d)) S
  | [], _ => rfl
  | d :: ds, h => by
    obtain ⟨ρ1, h1, h2, h3⟩ := h d List.mem_cons_self
    have ih := compL_map f ds fun e he => h e (List.mem_cons_of_mem _ he)
    simp [compL, tYesM, h1, h2, h3] at ih ⊢
    simp [ih]
theorem compL_filter {t : Tg} {test : MT} {elt : ME} {ρ : Rho} {S : Store} (p : D → Bool) : ∀ (ds : List D), (∀ d ∈ ds, ∃ ρ1, t d ρ = some ρ1 ∧ test ρ1 S = .ok (p d) S ∧ elt ρ1 S = .ok d S ∧ Dv.plain d = true ∧ Dv.cool d = d) →
    compL t test elt ρ ds S = .ok (ds.filter p) S
  | [], _ => rfl
  | d :: ds, h => by
    obtain ⟨ρ1, h1, h2, h3, h4, h5⟩ := h d List.mem_cons_self
    have ih := compL_filter p ds fun e he => h e (List.mem_cons_of_mem _ he)
    simp only [compL, h1, h2, h3, h4, if_true]
    cases hp : p d <;> simp [hp, ih, h5]
def kMu2 (f : List D → List D → Option (List D × D)) (n : Nat) (args : List D) (S2 : Store) : Res D := match cellL S2 n with
  | some (fl, xs) => match f xs args with
    | some (xs', x) => if isNew x then .bad else .ok x (S2.set n (some (.lst fl xs')))
    | none => .bad
  | none => .bad
def kMu1 (f : List D → List D → Option (List D × D)) (a : MA) (ρ : Rho) (d : D) (S1 : Store) : Res D := match d with
  | .loc n => if (cellL S1 n).isSome then (a ρ S1).bind (kMu2 f n) else .bad
  | _ => .bad
@[simp] theorem kMu1_loc {f : List D → List D → Option (List D × D)} {k : Nat} : kMu1 f a ρ (.loc k) S = if (cellL S k).isSome then (a ρ S).bind (kMu2 f k) else .bad := rfl
@[simp] theorem ev_mut {f : List D → List D → Option (List D × D)} : mMut f m a ρ S = (m ρ S).bind (kMu1 f a ρ) := rfl
theorem cellL_of {k : Nat} {fl : Bool} {xs : List D} (h : S[k]? = some (some (.lst fl xs))) : cellL S k = some (fl, xs) := by unfold cellL; rw [h]
theorem kMu2_append {k : Nat} {fl : Bool} {xs : List D} {d : D} (h : S[k]? = some (some (.lst fl xs))) (hp : Dv.plain d = true) (hl : xs.length < LINE) : kMu2 fAppend k [d] S = .ok .non (S.set k (some (.lst fl (xs ++ [Dv.cool d])))) := by
  unfold kMu2
  rw [cellL_of h]
  simp [fAppend, hp, hl, isNew]
/-! calls of builtins -/
@[simp] theorem cTuple_lst (f : Bool) (xs : List D) : cTuple S [.lst f xs] = some (.tup xs) := rfl
@[simp] theorem cTuple_tup (xs : List D) : cTuple S [.tup xs] = some (.tup xs) := rfl
@[simp] theorem cList_lst (f : Bool) (xs : List D) : cList S [.lst f xs] = some (.lst true xs) := rfl
@[simp] theorem cList_tup (xs : List D) : cList S [.tup xs] = some (.lst true xs) := rfl
@[simp] theorem cLen_lst (f : Bool) (xs : List D) : cLen S [.lst f xs] = some (.int xs.length) := rfl
@[simp] theorem cLen_tup (xs : List D) : cLen S [.tup xs] = some (.int xs.length) := rfl
@[simp] theorem cLen_rol (xs : List D) : cLen S [.rol xs] = some (.int xs.length) := rfl
theorem cSum_ints (f : Bool) (ns : List Int) : cSum S [.lst f (ns.map .int)] = some (.int ns.sum) := by simp [cSum, listArg, vw, lstOf, intsOf_map]
theorem cAll_bls (f : Bool) (bs : List Bool) : cAll S [.lst f (bs.map .bl)] = some (.bl (bs.all id)) := by simp [cAll, listArg, vw, lstOf, blsOf_map]
/-! a def -/
def nones (N : Nat) : Store := List.replicate N none
theorem nones_len (N : Nat) : (nones N).length = N := by simp [nones]
def dR (b : Nat) (x : Option D) (S' : Store) : Res D := match x with
  | some d' => .ok d' (S'.take b)
  | none => .bad
@[simp] theorem dR_some {b : Nat} (d : D) : dR b (some d) S = .ok d (S.take b) := rfl
def defR (b : Nat) (r : ResS) : Res D := match r with
  | .rt d S' => dR b (retD b d S') S'
  | .nx _ S' => .ok .non (S'.take b)
  | .exc c fs _ S' => .exc c fs (S'.take b)
  | _ => .bad
@[simp] theorem defR_rt {b : Nat} (d : D) (S' : Store) : defR b (.rt d S') = dR b (retD b d S') S' := rfl
@[simp] theorem defR_nx {b : Nat} (ρ : Rho) (S' : Store) : defR b (.nx ρ S') = .ok .non (S'.take b) := rfl
@[simp] theorem defR_exc {b c : Nat} (fs : List D) (ρ : Rho) (S' : Store) : defR b (.exc c fs ρ S') = .exc c fs (S'.take b) := rfl
theorem ev_def {N : Nat} {b : Nat → MS} {ds : List D} : mDef N b ds S = defR S.length (b S.length (ds.map some ++ List.replicate (N - ds.length) none) (S ++ nones N)) := by
  unfold mDef defR nones
  cases b S.length (ds.map some ++ List.replicate (N - ds.length) none) (S ++ List.replicate N none) with
  | rt d S' =>
    dsimp only
    unfold dR
    cases retD S.length d S' <;> rfl
  | _ => rfl
theorem rD_plain {b : Nat} {d : D} (h : Dv.plain d = true) : retD b d S = some d := by cases d <;> first | rfl | (cases h; done)
@[simp] theorem len_set_take {T : Store} {n : Nat} {x : Option D} : ((S.set n x) ++ T).take S.length = S.set n x := by
  have : S.length = (S.set n x).length := by simp
  rw [this, List.take_left]
theorem plain_cool {d : D} (h : Dv.plain d = true) : Dv.plain (Dv.cool d) = true := by cases d <;> first | rfl | (cases h; done)
theorem ao_plain {d : D} {ds : List D} (h : Dv.plain d = true) : Dv.argsOk (d :: ds) = Dv.argsOk ds := by cases d <;> first | rfl | (cases h; done)
theorem ca_plain {d : D} {ds : List D} (h : Dv.plain d = true) : Dv.coolA (d :: ds) = Dv.cool d :: Dv.coolA ds := by cases d <;> first | rfl | (cases h; done)
@[simp] theorem ev_yes : tYesM ρ S = .ok true S := rfl
@[simp] theorem rD_int {b : Nat} (i : Int) : retD b (.int i) S = some (.int i) := rfl
@[simp] theorem rD_bl {b : Nat} (i : Bool) : retD b (.bl i) S = some (.bl i) := rfl
@[simp] theorem rD_str {b : Nat} (i : Str) : retD b (.str i) S = some (.str i) := rfl
@[simp] theorem rD_non {b : Nat} : retD b .non S = some .non := rfl
@[simp] theorem rD_tup {b : Nat} (xs : List D) : retD b (.tup xs) S = some (.tup xs) := rfl
@[simp] theorem rD_lst {b : Nat} (f : Bool) (xs : List D) : retD b (.lst f xs) S = some (.lst f xs) := rfl
/-! operations -/
@[simp] theorem dII_int {h : Int → Int → Option D} (i j : Int) : dII h S (.int i) (.int j) = h i j := rfl
@[simp] theorem dGt_int (i j : Int) : dGt S (.int i) (.int j) = some (.bl (decide (j < i))) := rfl
@[simp] theorem dGe_int (i j : Int) : dGe S (.int i) (.int j) = some (.bl (decide (j ≤ i))) := rfl
@[simp] theorem dLt_int (i j : Int) : dLt S (.int i) (.int j) = some (.bl (decide (i < j))) := rfl
@[simp] theorem dLe_int (i j : Int) : dLe S (.int i) (.int j) = some (.bl (decide (i ≤ j))) := rfl
@[simp] theorem dSub_int (i j : Int) : dSub S (.int i) (.int j) = some (.int (i - j)) := rfl
@[simp] theorem dAdd_int (i j : Int) : dAdd S (.int i) (.int j) = some (.int (i + j)) := rfl
@[simp] theorem dMod_int (i j : Int) : dMod S (.int i) (.int j) = if 0 < j then some (.int (i % j)) else none := rfl
@[simp] theorem dDiv_int (i j : Int) : dDiv S (.int i) (.int j) = if 0 < j ∧ j.natAbs.log2 < 9000 then some (.int (i / j)) else none := rfl
@[simp] theorem dPow_int (i j : Int) : dPow S (.int i) (.int j) = if 0 ≤ j ∧ j ≤ 1000000 ∧ i.natAbs < 2 ^ 64 then some (.int (i ^ j.toNat)) else none := rfl
@[simp] theorem dShl_int (i j : Int) : dShl S (.int i) (.int j) = if 0 ≤ j ∧ j ≤ 1000000 ∧ i.natAbs < 2 ^ 64 then some (.int (i * 2 ^ j.toNat)) else none := rfl
@[simp] theorem dShr_int (i j : Int) : dShr S (.int i) (.int j) = if 0 ≤ j then some (.int (i / 2 ^ j.toNat)) else none := rfl
@[simp] theorem dAnd_int (i j : Int) : dAnd S (.int i) (.int j) = some (.int (Builtin.bitAnd i j)) := rfl
@[simp] theorem dOr_int (i j : Int) : dOr S (.int i) (.int j) = some (.int (Builtin.bitOr i j)) := rfl
theorem dMul_int {i j : Int} (h : i.natAbs.log2 + j.natAbs.log2 < 1000000) : dMul S (.int i) (.int j) = some (.int (i * j)) := by
  simp [dMul, dMulI, dII, vw, h]
@[simp] theorem dNeg_int (i : Int) : dNeg S (.int i) = some (.int (-i)) := rfl
@[simp] theorem cInt_int (i : Int) : cInt S [.int i] = some (.int i) := rfl
@[simp] theorem cInt_bl (b : Bool) : cInt S [.bl b] = some (.int (if b then 1 else 0)) := rfl
@[simp] theorem cAbs_int (i : Int) : cAbs S [.int i] = some (.int (if i < 0 then -i else i)) := rfl
@[simp] theorem cMax2_int (i j : Int) : cMax2 S [.int i, .int j] = some (.int (if j > i then j else i)) := rfl
@[simp] theorem cMin2_int (i j : Int) : cMin2 S [.int i, .int j] = some (.int (if j < i then j else i)) := rfl
@[simp] theorem isi_tup (xs : List D) (n : String) : cIsi S [.tup xs, .ty n] = if tyNames.contains n then some (.bl (isTy "tuple" n)) else none := rfl
@[simp] theorem isi_int (i : Int) (n : String) : cIsi S [.int i, .ty n] = if tyNames.contains n then some (.bl (isTy "int" n)) else none := rfl
@[simp] theorem isi_bl (i : Bool) (n : String) : cIsi S [.bl i, .ty n] = if tyNames.contains n then some (.bl (isTy "bool" n)) else none := rfl
@[simp] theorem isi_str (i : Str) (n : String) : cIsi S [.str i, .ty n] = if tyNames.contains n then some (.bl (isTy "str" n)) else none := rfl
@[simp] theorem isi_non (n : String) : cIsi S [.non, .ty n] = if tyNames.contains n then some (.bl (isTy "NoneType" n)) else none := rfl
@[simp] theorem isi_lst (f : Bool) (xs : List D) (n : String) : cIsi S [.lst f xs, .ty n] = if tyNames.contains n then some (.bl (isTy "list" n)) else none := rfl
@[simp] theorem isi_dct (f : Bool) (xs : List (D × D)) (n : String) : cIsi S [.dct f xs, .ty n] = if tyNames.contains n then some (.bl (isTy "dict" n)) else none := rfl
@[simp] theorem nw_ty (n : String) : isNew (.ty n) = false := rfl
@[simp] theorem ao_nil : argsOk [] = true := rfl
@[simp] theorem ao_int (i : Int) (ds : List D) : argsOk (.int i :: ds) = argsOk ds := rfl
@[simp] theorem ao_bl (i : Bool) (ds : List D) : argsOk (.bl i :: ds) = argsOk ds := rfl
@[simp] theorem ao_str (i : Str) (ds : List D) : argsOk (.str i :: ds) = argsOk ds := rfl
@[simp] theorem ao_non (ds : List D) : argsOk (.non :: ds) = argsOk ds := rfl
@[simp] theorem ao_tup (xs ds : List D) : argsOk (.tup xs :: ds) = argsOk ds := rfl
@[simp] theorem ao_lst (f : Bool) (xs ds : List D) : argsOk (.lst f xs :: ds) = argsOk ds := rfl
@[simp] theorem ao_rol (xs ds : List D) : argsOk (.rol xs :: ds) = argsOk ds := rfl
@[simp] theorem ao_dct (f : Bool) (xs : List (D × D)) (ds : List D) : argsOk (.dct f xs :: ds) = argsOk ds := rfl
@[simp] theorem ao_loc (n : Nat) (ds : List D) : argsOk (.loc n :: ds) = argsOk ds := rfl
@[simp] theorem ca_nil : coolA [] = [] := rfl
@[simp] theorem ca_int (i : Int) (ds : List D) : coolA (.int i :: ds) = .int i :: coolA ds := rfl
@[simp] theorem ca_bl (i : Bool) (ds : List D) : coolA (.bl i :: ds) = .bl i :: coolA ds := rfl
@[simp] theorem ca_str (i : Str) (ds : List D) : coolA (.str i :: ds) = .str i :: coolA ds := rfl
@[simp] theorem ca_non (ds : List D) : coolA (.non :: ds) = .non :: coolA ds := rfl
@[simp] theorem ca_tup (xs ds : List D) : coolA (.tup xs :: ds) = .tup xs :: coolA ds := rfl
@[simp] theorem ca_lst (f : Bool) (xs ds : List D) : coolA (.lst f xs :: ds) = .lst false xs :: coolA ds := rfl
@[simp] theorem ca_rol (xs ds : List D) : coolA (.rol xs :: ds) = .rol xs :: coolA ds := rfl
@[simp] theorem ca_dct (f : Bool) (xs : List (D × D)) (ds : List D) : coolA (.dct f xs :: ds) = .dct false xs :: coolA ds := rfl
@[simp] theorem ca_loc (n : Nat) (ds : List D) : coolA (.loc n :: ds) = .loc n :: coolA ds := rfl
@[simp] theorem co_int (i : Int) : Dv.cool (.int i) = .int i := rfl
@[simp] theorem co_bl (i : Bool) : Dv.cool (.bl i) = .bl i := rfl
@[simp] theorem co_str (i : Str) : Dv.cool (.str i) = .str i := rfl
@[simp] theorem co_non : Dv.cool .non = .non := rfl
@[simp] theorem co_tup (xs : List D) : Dv.cool (.tup xs) = .tup xs := rfl
@[simp] theorem co_lst (f : Bool) (xs : List D) : Dv.cool (.lst f xs) = .lst false xs := rfl
@[simp] theorem co_dct (f : Bool) (xs : List (D × D)) : Dv.cool (.dct f xs) = .dct false xs := rfl
@[simp] theorem co_rol (xs : List D) : Dv.cool (.rol xs) = .rol xs := rfl
@[simp] theorem pl_int (i : Int) : Dv.plain (.int i) = true := rfl
@[simp] theorem pl_bl (i : Bool) : Dv.plain (.bl i) = true := rfl
@[simp] theorem pl_str (i : Str) : Dv.plain (.str i) = true := rfl
@[simp] theorem pl_non : Dv.plain .non = true := rfl
@[simp] theorem pl_tup (xs : List D) : Dv.plain (.tup xs) = true := rfl
@[simp] theorem pl_lst (f : Bool) (xs : List D) : Dv.plain (.lst f xs) = true := rfl
@[simp] theorem pl_dct (f : Bool) (xs : List (D × D)) : Dv.plain (.dct f xs) = true := rfl
@[simp] theorem pl_rol (xs : List D) : Dv.plain (.rol xs) = true := rfl
@[simp] theorem pL_nil : plainL [] = true := rfl
@[simp] theorem pL_cons (d : D) (ds : List D) : plainL (d :: ds) = (Dv.plain d && plainL ds) := rfl
@[simp] theorem cL_nil : coolL [] = [] := rfl
@[simp] theorem cL_cons (d : D) (ds : List D) : coolL (d :: ds) = Dv.cool d :: coolL ds := rfl
theorem atI_nat {α : Type} (xs : List α) (i : Nat) (h : i < xs.length) : atI xs (i : Int) = xs[i]? := by
  simp [atI, ixN, h]
@[simp] theorem atI_0 {α : Type} (x : α) (xs : List α) : atI (x :: xs) 0 = some x := by simp [atI, ixN]
@[simp] theorem atI_1 {α : Type} (x y : α) (xs : List α) : atI (x :: y :: xs) 1 = some y := by
  have h : (1 : Int) < xs.length + 1 + 1 := by omega
  simp [atI, ixN, h]
@[simp] theorem ix_tup (xs : List D) (i : Int) : dIx' S (.tup xs) (.int i) = (atI xs i).map Dv.cool := rfl
@[simp] theorem ix_rol (xs : List D) (i : Int) : dIx' S (.rol xs) (.int i) = (atI xs i).map Dv.cool := rfl
theorem cool_cool (d : D) : Dv.cool (Dv.cool d) = Dv.cool d := by cases d <;> rfl
@[simp] theorem ix_lst (f : Bool) (xs : List D) (i : Int) : dIx' S (.lst f xs) (.int i) = (atI xs i).map Dv.cool := by
  simp only [dIx', dIx, vw]
  rw [Option.map_map]
  congr 1
  funext d
  exact cool_cool d
theorem ix_loc {n : Nat} {f : Bool} {xs : List D} (h : S[n]? = some (some (.lst f xs))) (i : Int) : dIx' S (.loc n) (.int i) = (atI xs i).map Dv.cool := by
  simp only [dIx', dIx, vw, h]
  simp only [Option.join_some, Option.getD_some]
  rw [Option.map_map]
  congr 1
  funext d
  exact cool_cool d
@[simp] theorem tru_bl (b : Bool) : truD S (.bl b) = some b := rfl
@[simp] theorem tru_int (i : Int) : truD S (.int i) = some (i != 0) := rfl
@[simp] theorem tru_tup (xs : List D) : truD S (.tup xs) = some (!xs.isEmpty) := rfl
@[simp] theorem vwv_int (i : Int) : vw S (.int i) = .int i := rfl
@[simp] theorem vwv_bl (i : Bool) : vw S (.bl i) = .bl i := rfl
@[simp] theorem vwv_str (i : Str) : vw S (.str i) = .str i := rfl
@[simp] theorem vwv_non : vw S .non = .non := rfl
@[simp] theorem vwv_tup (xs : List D) : vw S (.tup xs) = .tup xs := rfl
@[simp] theorem vwv_lst (f : Bool) (xs : List D) : vw S (.lst f xs) = .lst f xs := rfl
@[simp] theorem vwv_rol (xs : List D) : vw S (.rol xs) = .rol xs := rfl
@[simp] theorem vwv_dct (f : Bool) (xs : List (D × D)) : vw S (.dct f xs) = .dct f xs := rfl
@[simp] theorem nw_int (i : Int) : isNew (.int i) = false := rfl
@[simp] theorem nw_bl (i : Bool) : isNew (.bl i) = false := rfl
@[simp] theorem nw_str (i : Str) : isNew (.str i) = false := rfl
@[simp] theorem nw_non : isNew .non = false := rfl
@[simp] theorem nw_tup (xs : List D) : isNew (.tup xs) = false := rfl
@[simp] theorem nw_lst (f : Bool) (xs : List D) : isNew (.lst f xs) = f := by cases f <;> rfl
@[simp] theorem nw_dct (f : Bool) (xs : List (D × D)) : isNew (.dct f xs) = f := by cases f <;> rfl
@[simp] theorem nw_loc (n : Nat) : isNew (.loc n) = false := rfl
@[simp] theorem nw_rol (xs : List D) : isNew (.rol xs) = false := rfl
end
end Dv

namespace Lk01
open PySem PySem.Spec PyProof.Rows L2 Dv
set_option autoImplicit false
/-- a bag of draws at the cell n -/
def Bag (n : Nat) (S : Store) : Prop := ∃ f g b, S[n]? = some (some (.lst f [.int g, .int b])) ∧ 0 ≤ b ∧ b < 2 ^ 61
/-- nothing but the cell n was changed -/
def At (n : Nat) (S S' : Store) : Prop := ∃ x, S' = S.set n (some x)
theorem Bag.lt {n : Nat} {S : Store} (h : Bag n S) : n < S.length := let ⟨_, _, _, h, _⟩ := h; get_lt h
theorem set_self {n : Nat} {S : Store} {x : D} (h : S[n]? = some (some x)) : S.set n (some x) = S := by
  refine List.ext_getElem? fun i => ?_
  rw [List.getElem?_set]
  split
  · rename_i e; subst e; rw [if_pos (get_lt h)]; exact h.symm
  · rfl
theorem At.refl {n : Nat} {S : Store} (h : Bag n S) : At n S S := let ⟨_, _, _, h, _⟩ := h; ⟨_, (set_self h).symm⟩
theorem At.trans {n : Nat} {S S1 S2 : Store} (a : At n S S1) (b : At n S1 S2) : At n S S2 := by
  obtain ⟨x, rfl⟩ := a
  obtain ⟨y, rfl⟩ := b
  exact ⟨y, by rw [List.set_set]⟩
theorem At.len {n : Nat} {S S1 : Store} (a : At n S S1) : S1.length = S.length := by obtain ⟨x, rfl⟩ := a; simp
theorem Bag.set {n : Nat} {S : Store} (h : Bag n S) {f : Bool} {g b : Int} (h0 : 0 ≤ b) (h1 : b < 2 ^ 61) : Bag n (S.set n (some (.lst f [.int g, .int b]))) :=
  ⟨f, g, b, by rw [List.getElem?_set_self h.lt], h0, h1⟩
theorem Bag.app {n : Nat} {S T : Store} (h : Bag n S) : Bag n (S ++ T) := let ⟨f, g, b, h, i⟩ := h; ⟨f, g, b, app_get h, i⟩
theorem fLOG : (2 : Int).natAbs.log2 = 1 := by decide
theorem draw_ok {n : Nat} {S : Store} {m : Int} (h : Bag n S) (hm : 0 < m) (hm2 : m < 2 ^ 60) : ∃ r S', d__law_draw [.loc n, .int m] S = .ok (.int r) S' ∧ 0 ≤ r ∧ r < m ∧ Bag n S' ∧ At n S S' := by
  obtain ⟨f, g, b, hS, hb0, hb1⟩ := id h
  have hS2 : ∀ T : Store, (S ++ T)[n]? = some (some (.lst f [.int g, .int b])) := fun T => app_get hS
  have hn := get_lt hS
  have lm : m.natAbs.log2 < 9000 := by
    have : m.natAbs.log2 < 60 := (Nat.log2_lt (by omega)).mpr (by omega)
    omega
  unfold d__law_draw
  rw [ev_def]
  unfold b__law_draw
  by_cases hg : 0 < g
  · refine ⟨g % m, S.set n (some (.lst f [.int (g / m), .int b])), ?_, Int.emod_nonneg _ (by omega), Int.emod_lt_of_pos _ hm, h.set hb0 hb1, ⟨_, rfl⟩⟩
    simp [ix_loc (hS2 _), hg, hm, lm, setAt, cellL, hS2, ixN, app_set hn]
  · refine ⟨((b * 6364136223 + 1442695041) % (2 ^ 61 - 1)) / 65537 % m, S.set n (some (.lst f [.int g, .int ((b * 6364136223 + 1442695041) % (2 ^ 61 - 1))])), ?_, Int.emod_nonneg _ (by omega), Int.emod_lt_of_pos _ hm, h.set (Int.emod_nonneg _ (by decide)) (Int.lt_trans (Int.emod_lt_of_pos _ (by decide)) (by decide)), ⟨_, rfl⟩⟩
    have lb : b.natAbs.log2 < 100 := by
      rcases Nat.eq_zero_or_pos b.natAbs with z | z
      · rw [z]; decide
      · have : b.natAbs.log2 < 61 := (Nat.log2_lt (by omega)).mpr (by omega)
        omega
    have hS3 : ∀ T : Store, (S.set n (some (.lst f [.int g, .int ((b * 6364136223 + 1442695041) % 2305843009213693951)])) ++ T)[n]? = some (some (.lst f [.int g, .int ((b * 6364136223 + 1442695041) % 2305843009213693951)])) := fun T => app_get (by rw [List.getElem?_set_self hn])
    have l2 : (6364136223 : Int).natAbs.log2 < 100 := by decide
    have l3 : Nat.log2 65537 < 9000 := by decide
    simp [ix_loc (hS2 _), ix_loc (hS3 _), hg, hm, l3, dMul_int (show b.natAbs.log2 + (6364136223 : Int).natAbs.log2 < 1000000 by omega), setAt, cellL, hS2, ixN, app_set hn]
theorem mul_ok {S : Store} {i j : Int} {a b : Nat} (hi : i.natAbs < 2 ^ a) (hj : j.natAbs < 2 ^ b) (h : a + b < 1000000) (ha : 0 < a) (hb : 0 < b) : dMul S (.int i) (.int j) = some (.int (i * j)) := by
  refine dMul_int ?_
  have l1 : i.natAbs.log2 < a := by
    rcases Nat.eq_zero_or_pos i.natAbs with z | z
    · rw [z]; simpa using ha
    · exact (Nat.log2_lt (by omega)).mpr hi
  have l2 : j.natAbs.log2 < b := by
    rcases Nat.eq_zero_or_pos j.natAbs with z | z
    · rw [z]; simpa using hb
    · exact (Nat.log2_lt (by omega)).mpr hj
  omega
theorem mod_lt2 {i : Int} {k : Nat} (j : Int) (hj : 0 < j) (h : j.natAbs ≤ 2 ^ k) : (i % j).natAbs < 2 ^ k := by
  have h1 := Int.emod_nonneg i (show j ≠ 0 by omega)
  have h2 := Int.emod_lt_of_pos i hj
  omega
theorem bag_ok {ns : List Int} {at_ : Nat} {S : Store} (h2 : at_ ≤ 2) : ∃ g b, d__law_bag [.rol (ns.map .int), .int at_] S = .ok (.lst true [.int g, .int b]) S ∧ 0 ≤ b ∧ b < 2 ^ 61 := by
  have ha : ((at_ : Nat) : Int).natAbs < 2 ^ 100 := Nat.lt_of_le_of_lt (show ((at_ : Nat) : Int).natAbs ≤ 2 by omega) (by decide)
  have e1 : ∀ S : Store, dMul S (.int 1000000000000000000000000000000000000000000000000000000000000) (.int 1000000000000000000000000000000000000000000000000000000000000) = some (.int (1000000000000000000000000000000000000000000000000000000000000 * 1000000000000000000000000000000000000000000000000000000000000)) := fun S => mul_ok (a := 200) (b := 200) (by decide) (by decide) (by decide) (by decide) (by decide)
  have e2 : ∀ (S : Store) (c : Int), dMul S (.int (c % 1000000000039)) (.int 10007) = some (.int (c % 1000000000039 * 10007)) := fun S c => mul_ok (a := 100) (b := 100) (mod_lt2 _ (by decide) (by decide)) (by decide) (by decide) (by decide) (by decide)
  have e3 : ∀ S : Store, dMul S (.int 509) (.int (at_ : Int)) = some (.int (509 * at_)) := fun S => mul_ok (a := 100) (b := 100) (by decide) ha (by decide) (by decide) (by decide)
  have e4 : ∀ (S : Store) (p : Prop) [Decidable p], dMul S (.int 17) (.int (if p then 1 else 0)) = some (.int (17 * (if p then 1 else 0))) := fun S p _ => mul_ok (a := 100) (b := 100) (by decide) (by split <;> decide) (by decide) (by decide) (by decide)
  have e5 : ∀ S : Store, dMul S (.int 89) (.int (at_ : Int)) = some (.int (89 * at_)) := fun S => mul_ok (a := 100) (b := 100) (by decide) ha (by decide) (by decide) (by decide)
  unfold d__law_bag
  rw [ev_def]
  unfold b__law_bag
  have l61 : ∀ x : Int, 0 ≤ x % 2305843009213693951 ∧ x % 2305843009213693951 < 2 ^ 61 := fun x => ⟨Int.emod_nonneg _ (by decide), Int.lt_trans (Int.emod_lt_of_pos _ (by decide)) (by decide)⟩
  by_cases hl : at_ < ns.length
  · have hx : atI (ns.map D.int) (at_ : Int) = some (.int ns[at_]) := by rw [atI_nat _ _ (by simpa using hl)]; simp [hl]
    apply Exists.intro
    apply Exists.intro
    apply And.intro
    · simp [hl, e1, e2, e3, e4, cLen, LINE, hx]
      exact ⟨rfl, rfl⟩
    · exact l61 _
  · apply Exists.intro
    apply Exists.intro
    apply And.intro
    · simp [hl, e1, e2, e3, e4, e5, cLen, LINE]
      exact ⟨rfl, rfl⟩
    · exact l61 _
/-- one of some things -/
theorem one_of_ok {n : Nat} {S : Store} {xs : List D} (h : Bag n S) (hx : xs ≠ []) (hl : xs.length < 1000) (hp : ∀ x ∈ xs, Dv.plain x = true) : ∃ x S', x ∈ xs ∧ d__law_one_of [.loc n, .lst false xs] S = .ok (Dv.cool x) S' ∧ Bag n S' ∧ At n S S' := by
  have h0 : 0 < xs.length := List.length_pos_iff.mpr hx
  obtain ⟨r, S', e, r0, r1, hB, hA⟩ := draw_ok (n := n) (S := S ++ nones 2) (m := xs.length) h.app (by omega) (by omega)
  obtain ⟨y, hy⟩ := hA
  have hn := h.lt
  have hS : S' = S.set n (some y) ++ nones 2 := by rw [hy, app_set hn]
  obtain ⟨j, rfl⟩ : ∃ j : Nat, r = j := ⟨r.toNat, by omega⟩
  have hj : j < xs.length := by omega
  have hr : atI xs (j : Int) = some xs[j] := by rw [atI_nat _ _ hj]; simp
  have hpl : Dv.plain (Dv.cool xs[j]) = true := plain_cool (hp _ (List.getElem_mem hj))
  refine ⟨xs[j], S.set n (some y), List.getElem_mem _, ?_, ?_, ⟨y, rfl⟩⟩
  · unfold d__law_one_of
    rw [ev_def]
    unfold b__law_one_of
    simp [cLen, e, hS, hr, isNew_cool, rD_plain hpl]
  · obtain ⟨f, g, b, h1, h2⟩ := hB
    rw [hS] at h1
    refine ⟨f, g, b, ?_, h2⟩
    rwa [List.getElem?_append_left (by simpa using hn)] at h1
/-- people, ascending -/
def Lot (lo hi : Int) (l : List Int) : Prop := l.Pairwise (· < ·) ∧ ∀ x ∈ l, lo ≤ x ∧ x < hi
theorem compL_bag {n : Nat} {t : Tg} {test : MT} {elt : ME} {ρ : Rho} : ∀ (k : Nat) (lo : Int) (S : Store), Bag n S →
    (∀ (i : Int) (S : Store), lo ≤ i → i < lo + k → Bag n S → ∃ ρ1 b S', t (.int i) ρ = some ρ1 ∧ test ρ1 S = .ok b S' ∧ Bag n S' ∧ At n S S' ∧ elt ρ1 S' = .ok (.int i) S') →
    ∃ l S', compL t test elt ρ (rngD lo k) S = .ok (l.map D.int) S' ∧ Lot lo (lo + k) l ∧ Bag n S' ∧ At n S S'
  | 0, lo, S, h, _ => ⟨[], S, rfl, ⟨List.Pairwise.nil, fun x hx => by simp at hx⟩, h, .refl h⟩
  | k + 1, lo, S, h, hs => by
    obtain ⟨ρ1, b, S1, h1, h2, h3, h4, h5⟩ := hs lo S (Int.le_refl _) (by omega) h
    obtain ⟨l, S2, e, ⟨pw, rg⟩, b2, a2⟩ := compL_bag k (lo + 1) S1 h3 fun i S' i1 i2 hb => hs i S' (by omega) (by omega) hb
    cases b with
    | false =>
      refine ⟨l, S2, ?_, ⟨pw, fun x hx => ?_⟩, b2, h4.trans a2⟩
      · simp only [rngD, compL, h1, h2]
        simpa using e
      · have := rg x hx; omega
    | true =>
      refine ⟨lo :: l, S2, ?_, ⟨List.pairwise_cons.mpr ⟨fun y hy => ?_, pw⟩, fun x hx => ?_⟩, b2, h4.trans a2⟩
      · simp only [rngD, compL, h1, h2]
        simp [h5, e]
      · have := rg y hy; omega
      · rcases List.mem_cons.mp hx with rfl | hx
        · omega
        · have := rg x hx; omega
theorem At.app {n : Nat} {S S' : Store} {T : Store} (hn : n < S.length) (h : At n (S ++ T) S') : ∃ x, S' = S.set n (some x) ++ T := by
  obtain ⟨x, rfl⟩ := h
  exact ⟨x, app_set hn⟩
theorem Bag.unapp {n : Nat} {S T : Store} (hn : n < S.length) (h : Bag n (S ++ T)) : Bag n S := by
  obtain ⟨f, g, b, h1, h2⟩ := h
  refine ⟨f, g, b, ?_, h2⟩
  rwa [List.getElem?_append_left hn] at h1
theorem asc_len : ∀ {l : List Int} {lo : Int} {k : Nat}, l.Pairwise (· < ·) → (∀ x ∈ l, lo ≤ x ∧ x < lo + k) → l.length ≤ k
  | [], _, _, _, _ => by simp
  | x :: l, lo, k, pw, h => by
    rw [List.pairwise_cons] at pw
    have hx := h x List.mem_cons_self
    obtain ⟨j, rfl⟩ : ∃ j, k = j + 1 := ⟨k - 1, by omega⟩
    have := asc_len (l := l) (lo := x + 1) (k := (lo + (j + 1 : Nat) - (x + 1)).toNat) pw.2 fun y hy => by
      have a := pw.1 y hy
      have b := h y (List.mem_cons_of_mem _ hy)
      omega
    simp only [List.length_cons]
    omega
theorem lot_len {lo : Int} {k : Nat} {l : List Int} (h : Lot lo (lo + k) l) : l.length ≤ k := asc_len h.1 h.2
theorem lot_ok {n : Nat} {S : Store} {size : Int} (h : Bag n S) (h1 : 0 ≤ size) (h2 : size ≤ 20) : ∃ l S', d__law_lot [.loc n, .int size] S = .ok (tI l) S' ∧ Lot 0 size l ∧ Bag n S' ∧ At n S S' := by
  have hn := h.lt
  obtain ⟨x, S1, hx, e1, b1, a1⟩ := one_of_ok (n := n) (S := S ++ nones 4) (xs := [.int 1, .int 2, .int 2, .int 5]) h.app (by simp) (by simp) (by simp)
  obtain ⟨p, rfl, hp⟩ : ∃ p : Int, x = .int p ∧ 0 < p ∧ p < 2 ^ 60 := by
    simp only [List.mem_cons, List.mem_nil_iff, or_false] at hx
    rcases hx with rfl | rfl | rfl | rfl <;> exact ⟨_, rfl, by decide, by decide⟩
  obtain ⟨y, hy⟩ := a1.app hn
  have hs : size = ((size.toNat : Nat) : Int) := by omega
  obtain ⟨l, S2, e2, lt, b2, a2⟩ := compL_bag (n := n) (t := gN 3) (test := mAndT (mTB (mOp dEq (mCall d__law_draw 2 (aCons (mVar 0) (aCons (mVar 2) aNil))) (mK (.int 0)))) (mTB (mOp dGt (mCall d__law_draw 2 (aCons (mVar 0) (aCons (mK (.int 9)) aNil))) (mK (.int 0)))))
    (elt := mVar 3) (ρ := [some (.loc n), some (.int size), some (.int p), none]) size.toNat 0 S1 b1 fun i S' i1 i2 hb => by
      obtain ⟨r, S3, e3, r0, r1, b3, a3⟩ := draw_ok hb hp.1 hp.2
      obtain ⟨r', S4, e4, r0', r1', b4, a4⟩ := draw_ok (m := 9) b3 (by decide) (by decide)
      by_cases hr : r = 0
      · refine ⟨[some (.loc n), some (.int size), some (.int p), some (.int i)], decide (0 < r'), S4, by simp [gN], ?_, b4, a3.trans a4, by simp⟩
        simp [e3, e4, dEq, eqD, hr]
      · refine ⟨[some (.loc n), some (.int size), some (.int p), some (.int i)], false, S3, by simp [gN], ?_, b3, a3, by simp⟩
        simp [e3, dEq, eqD, hr]
  obtain ⟨z, hz⟩ := (a1.trans a2).app hn
  refine ⟨l, S.set n (some z), ?_, ?_, ?_, ⟨z, rfl⟩⟩
  · unfold d__law_lot
    rw [ev_def]
    unfold b__law_lot
    have hl : l.length ≤ 16777216 := by have := lot_len lt; omega
    simp [e1, LINE, wipeR, show size ≤ 16777216 by omega, show -16777216 ≤ size by omega, e2, hz, hl]
  · rw [← hs] at lt
    simpa using lt
  · rw [hz] at b2
    exact b2.unapp (by simpa using hn)
end Lk01

namespace Lk01
open PySem PySem.Spec PyProof.Rows L2 Dv
set_option autoImplicit false
/-- 0 ≤ i < size -/
def inR (size i : Int) : Bool := decide (0 ≤ i ∧ i < size)
theorem whole_int {i : Int} {S : Store} : d_is_whole [.int i] S = .ok (.bl (decide (-1000000000000000000000000000000000000000000000000000000000000 < i ∧ i < 1000000000000000000000000000000000000000000000000000000000000))) S := by
  unfold d_is_whole
  rw [ev_def]
  unfold b_is_whole
  by_cases h : -1000000000000000000000000000000000000000000000000000000000000 < i <;> simp [isTy, tyNames, h]
theorem whole_bl {b : Bool} {S : Store} : d_is_whole [.bl b] S = .ok (.bl false) S := by
  unfold d_is_whole
  rw [ev_def]
  unfold b_is_whole
  simp [isTy, tyNames]
theorem whole_str {b : Str} {S : Store} : d_is_whole [.str b] S = .ok (.bl false) S := by
  unfold d_is_whole
  rw [ev_def]
  unfold b_is_whole
  simp [isTy, tyNames]
theorem whole_non {S : Store} : d_is_whole [.non] S = .ok (.bl false) S := by
  unfold d_is_whole
  rw [ev_def]
  unfold b_is_whole
  simp [isTy, tyNames]
theorem within_int {i lo hi : Int} {S : Store} : d_is_within [.int i, .int lo, .int hi] S = .ok (.bl (decide ((-1000000000000000000000000000000000000000000000000000000000000 < i ∧ i < 1000000000000000000000000000000000000000000000000000000000000) ∧ lo ≤ i ∧ i ≤ hi))) S := by
  unfold d_is_within
  rw [ev_def]
  unfold b_is_within
  by_cases h : -1000000000000000000000000000000000000000000000000000000000000 < i ∧ i < 1000000000000000000000000000000000000000000000000000000000000 <;> by_cases h2 : lo ≤ i <;> simp [whole_int, h, h2]
/-- other values are no people -/
def noPer : D → Bool
  | .bl _ => true
  | .str _ => true
  | .non => true
  | _ => false
theorem person_int {i size : Int} {S : Store} (h : size ≤ 20) : d_is_person [.int size, .int i] S = .ok (.bl (inR size i)) S := by
  unfold d_is_person
  rw [ev_def]
  unfold b_is_person
  simp [within_int]
  unfold inR
  rw [Bool.eq_iff_iff]
  simp
  omega
theorem person_no {d : D} {size : Int} {S : Store} (h : noPer d = true) : d_is_person [.int size, d] S = .ok (.bl false) S := by
  have hw : ∀ S, d_is_whole [d] S = .ok (.bl false) S := fun S => by
    cases d with
    | bl b => exact whole_bl
    | str b => exact whole_str
    | non => exact whole_non
    | _ => cases h
  have hwi : ∀ S, d_is_within [d, .int 0, .int (size - 1)] S = .ok (.bl false) S := fun S => by
    unfold d_is_within
    rw [ev_def]
    unfold b_is_within
    cases d with
    | bl b => simp [hw]
    | str b => simp [hw]
    | non => simp [hw]
    | _ => cases h
  unfold d_is_person
  rw [ev_def]
  unfold b_is_person
  cases d with
  | bl b => simp [hwi]
  | str b => simp [hwi]
  | non => simp [hwi]
  | _ => cases h
/-! lots -/
/-- each below the next -/
def asc : List Int → Bool
  | x :: y :: r => decide (x < y) && asc (y :: r)
  | _ => true
theorem asc_iff : ∀ {l : List Int}, asc l = true ↔ l.Pairwise (· < ·)
  | [] => by simp [asc]
  | [x] => by simp [asc]
  | x :: y :: r => by
    simp only [asc, Bool.and_eq_true, decide_eq_true_eq, asc_iff (l := y :: r), List.pairwise_cons]
    constructor
    · rintro ⟨h, h1, h2⟩
      refine ⟨fun z hz => ?_, h1, h2⟩
      rcases List.mem_cons.mp hz with rfl | hz
      · exact h
      · have := h1 z hz; omega
    · rintro ⟨h, h1, h2⟩
      exact ⟨h y List.mem_cons_self, h1, h2⟩
def lotB (size : Int) (xs : List Int) : Bool := xs.all (inR size) && asc xs
theorem lotB_iff {size : Int} {xs : List Int} : lotB size xs = true ↔ Lot 0 size xs := by
  simp only [lotB, Bool.and_eq_true, List.all_eq_true, inR, decide_eq_true_eq, asc_iff, Lot]
  exact And.comm
def ascL : List Int → List Bool
  | x :: y :: r => decide (x < y) :: ascL (y :: r)
  | _ => []
theorem ascL_all : ∀ xs : List Int, (ascL xs).all id = asc xs
  | [] => rfl
  | [_] => rfl
  | x :: y :: r => by simp [ascL, asc, ascL_all (y :: r)]
def ltD : D → D
  | .tup [.int x, .int y] => .bl (decide (x < y))
  | _ => .bl false
theorem zip_ltD : ∀ xs : List Int, (zipD (xs.map D.int) ((xs.drop 1).map D.int)).map ltD = (ascL xs).map D.bl
  | [] => rfl
  | [x] => rfl
  | x :: y :: r => by
    have ih := zip_ltD (y :: r)
    simp only [List.drop_succ_cons, List.drop_zero, List.map_cons, zipD, ascL] at ih ⊢
    rw [ih]
    rfl
theorem zip_is : ∀ xs : List Int, ∀ d ∈ zipD (xs.map D.int) ((xs.drop 1).map D.int), ∃ x y : Int, d = .tup [.int x, .int y]
  | [], d, h => by simp [zipD] at h
  | [x], d, h => by simp [zipD] at h
  | x :: y :: r, d, h => by
    simp only [List.drop_succ_cons, List.drop_zero, List.map_cons, zipD, List.mem_cons] at h
    rcases h with rfl | h
    · exact ⟨x, y, rfl⟩
    · exact zip_is (y :: r) d (by simpa using h)
theorem zip_len : ∀ xs ys : List D, (zipD xs ys).length ≤ xs.length
  | [], _ => by simp [zipD]
  | _ :: _, [] => by simp [zipD]
  | x :: xs, y :: ys => by simp [zipD, zip_len xs ys]
theorem cut1 (xs : List Int) : Dv.cutD (xs.map D.int) (some 1) none = (xs.drop 1).map D.int := by
  unfold Dv.cutD
  have h1 : HT.sIx (xs.map D.int).length 0 (some 1) = min 1 (xs.map D.int).length := HT.sIx_nat (xs.map D.int).length 0 1
  rw [h1, HT.sIx_none, List.length_map]
  rcases xs with _ | ⟨x, xs⟩
  · rfl
  · have : min 1 (x :: xs).length = 1 := by simp
    rw [this, ← List.map_drop, ← List.map_take]
    congr 1
    apply List.take_of_length_le
    simp
def perB (size : Int) : D → Bool
  | .int i => inR size i
  | _ => false
def okP : D → Bool
  | .int _ => true
  | d => noPer d
theorem person_ok {d : D} {size : Int} {S : Store} (h : size ≤ 20) (hd : okP d = true) : d_is_person [.int size, d] S = .ok (.bl (perB size d)) S := by
  cases d with
  | int i => exact person_int h
  | bl b => exact person_no rfl
  | str b => exact person_no rfl
  | non => exact person_no rfl
  | _ => cases hd
theorem okP_cool {d : D} (h : okP d = true) : Dv.cool d = d ∧ Dv.plain d = true ∧ isNew d = false ∧ argsOk [d] = true ∧ coolA [d] = [d] := by
  cases d <;> first | exact ⟨rfl, rfl, rfl, rfl, rfl⟩ | cases h
theorem persons_ok {size : Int} {S : Store} {a b : Option D} {ds : List D} (h : size ≤ 20) (hd : ∀ d ∈ ds, okP d = true) :
    compL (gN 2) tYesM (mCall d_is_person 2 (aCons (mVar 0) (aCons (mVar 2) aNil))) [some (.int size), a, none, b] ds S = .ok (ds.map fun d => .bl (perB size d)) S := by
  refine compL_map (fun d => .bl (perB size d)) ds fun d hm => ?_
  obtain ⟨h1, h2, h3, h4, h5⟩ := okP_cool (hd d hm)
  refine ⟨[some (.int size), a, some d, b], by simp [gN, h1, h2], ?_, rfl⟩
  have hp := person_ok (S := S) h (hd d hm)
  cases d with
  | int i => simp [hp]
  | bl i => simp [hp]
  | str i => simp [hp]
  | non => simp [hp]
  | _ => cases hd _ hm
theorem lot_of_no {size : Int} {S : Store} {ds : List D} (h : size ≤ 20) (hd : ∀ d ∈ ds, okP d = true) (hl : ds.length ≤ 1000) (hn : ds.all (perB size) = false) : d_is_lot_of [.int size, .tup ds] S = .ok (.bl false) S := by
  have e := persons_ok (S := S ++ nones 4) (a := some (.tup ds)) (b := none) h hd
  have e2 : cAll (S ++ nones 4) [.lst true (ds.map fun d => .bl (perB size d))] = some (.bl false) := by
    have := cAll_bls (S := S ++ nones 4) true (ds.map (perB size))
    rw [List.map_map] at this
    rw [show (ds.map fun d => D.bl (perB size d)) = ds.map (D.bl ∘ perB size) from rfl, this, List.all_map]
    have : ds.all (id ∘ perB size) = ds.all (perB size) := rfl
    rw [this, hn]
  have hl2 : ds.length ≤ 16777216 := by omega
  unfold d_is_lot_of
  rw [ev_def]
  unfold b_is_lot_of
  simp [isTy, tyNames, wipeR, e, e2, LINE, hl2]
theorem lot_of_ints {size : Int} {S : Store} {xs : List Int} (h : size ≤ 20) (hl : xs.length ≤ 1000) : d_is_lot_of [.int size, tI xs] S = .ok (.bl (lotB size xs)) S := by
  have hd : ∀ d ∈ xs.map D.int, okP d = true := fun d hm => by
    obtain ⟨i, _, rfl⟩ := List.mem_map.mp hm
    rfl
  by_cases hp : xs.all (inR size) = true
  · have e := persons_ok (S := S ++ nones 4) (a := some (tI xs)) (b := none) h hd
    have e2 : cAll (S ++ nones 4) [.lst true ((xs.map D.int).map fun d => .bl (perB size d))] = some (.bl true) := by
      have := cAll_bls (S := S ++ nones 4) true (xs.map (inR size))
      rw [List.map_map] at this ⊢
      rw [show (xs.map ((fun d => D.bl (perB size d)) ∘ D.int)) = xs.map (D.bl ∘ inR size) from rfl, this, List.all_map]
      have : xs.all (id ∘ inR size) = xs.all (inR size) := rfl
      rw [this, hp]
    have e3 : compL (gT (gsC (gN 2) (gsC (gN 3) gs0))) tYesM (mOp dLt (mVar 2) (mVar 3)) [some (.int size), some (tI xs), none, none] (zipD (xs.map D.int) ((xs.drop 1).map D.int)) (S ++ nones 4) = .ok ((ascL xs).map D.bl) (S ++ nones 4) := by
      rw [compL_map ltD _ fun d hm => ?_, ← zip_ltD]
      · congr 1
        refine List.map_congr_left fun d hm => ?_
        obtain ⟨x, y, rfl⟩ := zip_is xs d hm
        rfl
      · obtain ⟨x, y, rfl⟩ := zip_is xs d hm
        exact ⟨[some (.int size), some (tI xs), some (.int x), some (.int y)], by simp [gT, gsC, gs0, gN], by simp [ltD], rfl⟩
    have e4 := cAll_bls (S := S ++ nones 4) true (ascL xs)
    rw [ascL_all] at e4
    have e5 : lotB size xs = asc xs := by simp [lotB, hp]
    have hl2 : xs.length ≤ 16777216 := by omega
    have hl3 : (ascL xs).length ≤ 16777216 := by
      have := congrArg List.length (zip_ltD xs)
      rw [List.length_map, List.length_map] at this
      have h2 := zip_len (xs.map D.int) ((xs.drop 1).map D.int)
      rw [List.length_map] at h2
      omega
    unfold d_is_lot_of
    rw [ev_def]
    unfold b_is_lot_of
    have e6 : dCut (S ++ nones 4) (.tup (xs.map D.int)) (some 1) none = some (.tup ((xs.drop 1).map D.int)) := by simp only [dCut, vw, cut1]
    simp [-List.map_map, -List.drop_one, -List.map_drop, isTy, tyNames, wipeR, LINE, e, e2, e3, e4, e5, e6, hl2, hl3]
  · have hp2 : xs.all (inR size) = false := by simpa using hp
    rw [lot_of_no h hd (by simpa using hl) (by rw [List.all_map]; exact hp2)]
    simp [lotB, hp2]
end Lk01

namespace Lk01
open PySem PySem.Spec PyProof.Rows L2 Dv
set_option autoImplicit false
/-! ### a lot's number -/
def bN : List Int → Nat
  | [] => 0
  | x :: xs => 2 ^ x.toNat + bN xs
theorem bN_dvd {k : Nat} : ∀ {xs : List Int}, (∀ y ∈ xs, k ≤ y.toNat) → 2 ^ k ∣ bN xs
  | [], _ => Nat.dvd_zero _
  | x :: xs, h => Nat.dvd_add (Nat.pow_dvd_pow 2 (h x List.mem_cons_self)) (bN_dvd fun y hy => h y (List.mem_cons_of_mem _ hy))
theorem bN_bit {p : Nat} : ∀ {xs : List Int}, xs.Pairwise (· < ·) → (∀ x ∈ xs, 0 ≤ x) → (bN xs).testBit p = decide ((p : Int) ∈ xs)
  | [], _, _ => by simp [bN]
  | x :: xs, pw, h => by
    rw [List.pairwise_cons] at pw
    have h0 := h x List.mem_cons_self
    have ih := bN_bit (p := p) pw.2 fun y hy => h y (List.mem_cons_of_mem _ hy)
    obtain ⟨m, hm⟩ := bN_dvd (k := x.toNat + 1) (xs := xs) fun y hy => by
      have := pw.1 y hy
      omega
    have e : bN (x :: xs) = bN xs ||| 2 ^ x.toNat := by
      show 2 ^ x.toNat + bN xs = _
      rw [hm, Nat.add_comm]
      exact Nat.two_pow_add_eq_or_of_lt (Nat.pow_lt_pow_right (by decide) (Nat.lt_succ_self _)) m
    rw [e, Nat.testBit_or, ih, Nat.testBit_two_pow]
    have : (x.toNat = p) ↔ ((p : Int) = x) := by omega
    simp only [List.mem_cons, this]
    by_cases a : (p : Int) = x <;> by_cases b : (p : Int) ∈ xs <;> simp [a, b]
theorem sum_bN : ∀ xs : List Int, (xs.map fun i : Int => (2 : Int) ^ i.toNat).sum = ((bN xs : Nat) : Int)
  | [] => rfl
  | x :: xs => by simp [bN, sum_bN xs]
theorem bits_ok {xs : List Int} {S : Store} (h : ∀ x ∈ xs, 0 ≤ x ∧ x < 1000) (hl : xs.length ≤ 1000) : d_bits [tI xs] S = .ok (.int ((bN xs : Nat) : Int)) S := by
  have e : compL (gN 1) tYesM (mOp dShl (mK (.int 1)) (mVar 1)) [some (tI xs), none] (xs.map D.int) (S ++ nones 2) = .ok ((xs.map fun i : Int => (2 : Int) ^ i.toNat).map D.int) (S ++ nones 2) := by
    rw [compL_map (fun d => match d with | .int i => .int (2 ^ i.toNat) | _ => .non) _ fun d hm => ?_]
    · simp only [List.map_map]
      rfl
    · obtain ⟨i, hi, rfl⟩ := List.mem_map.mp hm
      have := h i hi
      exact ⟨[some (tI xs), some (.int i)], by simp [gN], by simp [show 0 ≤ i by omega, show i ≤ 1000000 by omega], rfl⟩
  have e2 := cSum_ints (S := S ++ nones 2) true (xs.map fun i : Int => (2 : Int) ^ i.toNat)
  rw [sum_bN] at e2
  have hl2 : xs.length ≤ 16777216 := by omega
  unfold d_bits
  rw [ev_def]
  unfold b_bits
  simp [-List.map_map, wipeR, LINE, e, e2, hl2]
theorem rngD_map : ∀ (k : Nat) (lo : Int), rngD lo k = ((List.range k).map fun i => lo + (i : Nat)).map D.int
  | 0, _ => rfl
  | k + 1, lo => by
    rw [rngD, rngD_map k (lo + 1), List.range_succ_eq_map]
    simp only [List.map_cons, List.map_map]
    refine congr (congrArg _ (by simp)) (List.map_congr_left fun i _ => ?_)
    simp only [Function.comp]
    congr 1
    omega
/-- 0, .., k - 1 -/
def rg (k : Nat) : List Int := (List.range k).map fun i => ((i : Nat) : Int)
theorem rng0 (k : Nat) : rngD 0 k = (rg k).map D.int := by
  rw [rngD_map]
  congr 1
  exact List.map_congr_left fun i _ => by omega
theorem rg_mem {k : Nat} {i : Int} : i ∈ rg k ↔ 0 ≤ i ∧ i < k := by
  simp only [rg, List.mem_map, List.mem_range]
  constructor
  · rintro ⟨j, hj, rfl⟩; omega
  · rintro ⟨a, b⟩; exact ⟨i.toNat, by omega, by omega⟩
theorem rg_pw (k : Nat) : (rg k).Pairwise (· < ·) := by
  rw [rg, List.pairwise_map]
  exact List.pairwise_lt_range.imp fun h => by omega
theorem rg_len (k : Nat) : (rg k).length = k := by simp [rg]
theorem fil_map (p : D → Bool) (q : Int → Bool) (h : ∀ i, p (.int i) = q i) : ∀ xs : List Int, (xs.map D.int).filter p = (xs.filter q).map D.int
  | [] => rfl
  | x :: xs => by
    rw [List.map_cons, List.filter_cons, List.filter_cons, h, fil_map p q h xs]
    split <;> rfl
theorem lot_of_ok {n : Nat} {size : Int} {S : Store} (h1 : 0 ≤ size) (h2 : size ≤ 20) : d_lot_of [.int (n : Nat), .int size] S = .ok (tI ((rg size.toNat).filter fun i => n.testBit i.toNat)) S := by
  have e : compL (gN 2) (mT (mOp dAnd (mOp dShr (mVar 0) (mVar 2)) (mK (.int 1)))) (mVar 2) [some (.int (n : Nat)), some (.int size), none] ((rg size.toNat).map D.int) (S ++ nones 3) = .ok (((rg size.toNat).filter fun i => n.testBit i.toNat).map D.int) (S ++ nones 3) := by
    rw [compL_filter (fun d => match d with | .int i => n.testBit i.toNat | _ => false) _ fun d hm => ?_]
    · rw [fil_map _ (fun i => n.testBit i.toNat) fun i => rfl]
    · obtain ⟨i, hi, rfl⟩ := List.mem_map.mp hm
      have := rg_mem.mp hi
      refine ⟨[some (.int (n : Nat)), some (.int size), some (.int i)], by simp [gN], ?_, by simp, rfl, rfl⟩
      obtain ⟨m, hm2⟩ : ∃ m : Nat, m = n / 2 ^ i.toNat := ⟨_, rfl⟩
      obtain ⟨r, hr⟩ : ∃ r : Nat, r = m % 2 := ⟨_, rfl⟩
      have t1 : dShr (S ++ nones 3) (.int (n : Nat)) (.int i) = some (.int (m : Nat)) := by
        rw [dShr_int, if_pos (by omega), hm2]
        simp
      have t2 : dAnd (S ++ nones 3) (.int (m : Nat)) (.int 1) = some (.int (r : Nat)) := by
        rw [dAnd_int, bitAnd_m1, hr]
        simp
      have hq : (((r : Nat) : Int) != 0) = n.testBit i.toNat := by
        rw [Nat.testBit_eq_decide_div_mod_eq, ← hm2, ← hr, Bool.eq_iff_iff]
        simp
        omega
      simp [-dShr_int, -dAnd_int, t1, t2, hq]
  have hl : ((rg size.toNat).filter fun i => n.testBit i.toNat).length ≤ 16777216 := by
    have := List.length_filter_le (fun i : Int => n.testBit i.toNat) (rg size.toNat)
    rw [rg_len] at this
    omega
  unfold d_lot_of
  rw [ev_def]
  unfold b_lot_of
  simp [wipeR, LINE, rng0, e, hl, show size ≤ 16777216 by omega, show -16777216 ≤ size by omega]
end Lk01

namespace Lk01
open PySem PySem.Spec PyProof.Rows L2 Dv
set_option autoImplicit false
section
variable {size : Int} {S : Store} {one other : List Int}
theorem Lot.nn {lo hi : Int} {l : List Int} (h : Lot lo hi l) (h0 : 0 ≤ lo) : ∀ x ∈ l, 0 ≤ x := fun x hx => by have := h.2 x hx; omega
theorem Lot.sm {l : List Int} (h : Lot 0 size l) (h2 : size ≤ 20) : ∀ x ∈ l, 0 ≤ x ∧ x < 1000 := fun x hx => by have := h.2 x hx; omega
theorem Lot.ln {l : List Int} (h : Lot 0 size l) (h2 : size ≤ 20) : l.length ≤ 20 := by
  rcases l with _ | ⟨x, l⟩
  · simp
  · have := h.2 x List.mem_cons_self
    have := lot_len (lo := 0) (k := size.toNat) (l := x :: l) (by
      have e : (0 : Int) + (size.toNat : Nat) = size := by omega
      rw [e]; exact h)
    omega
theorem req_size (h1 : 1 ≤ size) (h2 : size ≤ 20) : d_require_size [.int size] S = .ok .non S := by
  unfold d_require_size
  rw [ev_def]
  unfold b_require_size
  simp [within_int, h1, h2, show -1000000000000000000000000000000000000000000000000000000000000 < size by omega, show size < 1000000000000000000000000000000000000000000000000000000000000 by omega]
theorem req_lot (h2 : size ≤ 20) (h : Lot 0 size one) : d_require_any_lot [.int size, tI one] S = .ok .non S := by
  have e := lot_of_ints (size := size) (S := S ++ nones 2) (xs := one) h2 (by have := h.ln h2; omega)
  rw [lotB_iff.mpr h] at e
  unfold d_require_any_lot
  rw [ev_def]
  unfold b_require_any_lot
  simp [e]
theorem req_two (h1 : 1 ≤ size) (h2 : size ≤ 20) (h : Lot 0 size one) (h' : Lot 0 size other) : d_require_two [.int size, tI one, tI other] S = .ok .non S := by
  have e1 := req_size (S := S ++ nones 3) h1 h2
  have e2 := req_lot (S := S ++ nones 3) h2 h
  have e3 := req_lot (S := S ++ nones 3) h2 h'
  unfold d_require_two
  rw [ev_def]
  unfold b_require_two
  simp [e1, e2, e3]
theorem is_lot_ints (h1 : 1 ≤ size) (h2 : size ≤ 20) (hl : one.length ≤ 1000) : d_is_lot [.int size, tI one] S = .ok (.bl (lotB size one)) S := by
  have e1 := req_size (S := S ++ nones 2) h1 h2
  have e2 := lot_of_ints (size := size) (S := S ++ nones 2) (xs := one) h2 hl
  unfold d_is_lot
  rw [ev_def]
  unfold b_is_lot
  simp [e1, e2]
theorem is_lot_no {ds : List D} (h1 : 1 ≤ size) (h2 : size ≤ 20) (hd : ∀ d ∈ ds, okP d = true) (hl : ds.length ≤ 1000) (hn : ds.all (perB size) = false) : d_is_lot [.int size, .tup ds] S = .ok (.bl false) S := by
  have e1 := req_size (S := S ++ nones 2) h1 h2
  have e2 := lot_of_no (S := S ++ nones 2) h2 hd hl hn
  unfold d_is_lot
  rw [ev_def]
  unfold b_is_lot
  simp [e1, e2]
/-- what is no tuple is no lot -/
def noTup : D → Bool
  | .lst false _ => true
  | .non => true
  | .int _ => true
  | .str _ => true
  | .dct false _ => true
  | _ => false
theorem is_lot_noTup {d : D} (h1 : 1 ≤ size) (h2 : size ≤ 20) (hd : noTup d = true) : d_is_lot [.int size, d] S = .ok (.bl false) S := by
  have e1 := req_size (S := S ++ nones 2) h1 h2
  have e2 : ∀ S, d_is_lot_of [.int size, d] S = .ok (.bl false) S := fun S => by
    unfold d_is_lot_of
    rw [ev_def]
    unfold b_is_lot_of
    cases d with
    | lst f xs => cases f with
      | false => simp [isTy, tyNames]
      | true => cases hd
    | non => simp [isTy, tyNames]
    | int i => simp [isTy, tyNames]
    | str i => simp [isTy, tyNames]
    | dct f xs => cases f with
      | false => simp [isTy, tyNames]
      | true => cases hd
    | _ => cases hd
  unfold d_is_lot
  rw [ev_def]
  unfold b_is_lot
  cases d with
  | lst f xs => cases f with
    | false => simp [e1, e2]
    | true => cases hd
  | non => simp [e1, e2]
  | int i => simp [e1, e2]
  | str i => simp [e1, e2]
  | dct f xs => cases f with
    | false => simp [e1, e2]
    | true => cases hd
  | _ => cases hd
/-! how two lots stand -/
def inter (one other : List Int) : List Int := one.filter fun x => decide (x ∈ other)
theorem Lot.inter (h : Lot 0 size one) : Lot 0 size (inter one other) :=
  ⟨h.1.sublist List.filter_sublist, fun x hx => h.2 x (List.mem_filter.mp hx).1⟩
theorem bN_inter (h : Lot 0 size one) (h' : Lot 0 size other) : bN one &&& bN other = bN (Lk01.inter one other) := by
  refine Nat.eq_of_testBit_eq fun p => ?_
  rw [Nat.testBit_and, bN_bit h.1 (h.nn (Int.le_refl _)), bN_bit h'.1 (h'.nn (Int.le_refl _)), bN_bit h.inter.1 (h.inter.nn (Int.le_refl _))]
  unfold Lk01.inter
  rw [← Bool.decide_and]
  exact decide_eq_decide.mpr (by simp)
theorem bN_inj (h : Lot 0 size one) (h' : Lot 0 size other) : bN one = bN other ↔ one = other := by
  constructor
  · intro e
    refine asc_eq h.1 h'.1 fun k => ?_
    by_cases hk : 0 ≤ k
    · have a := bN_bit (p := k.toNat) h.1 (h.nn (Int.le_refl _))
      have b := bN_bit (p := k.toNat) h'.1 (h'.nn (Int.le_refl _))
      rw [e, b] at a
      have hk2 : ((k.toNat : Nat) : Int) = k := by omega
      rw [hk2] at a
      exact (decide_eq_decide.mp a).symm
    · constructor
      · intro z; exact absurd (h.nn (Int.le_refl _) k z) hk
      · intro z; exact absurd (h'.nn (Int.le_refl _) k z) hk
  · rintro rfl; rfl
theorem inter_len1 : (Lk01.inter one other).length = one.length ↔ Lk01.inter one other = one := by
  constructor
  · intro h
    exact List.filter_sublist.eq_of_length h
  · intro h; rw [h]
theorem inter_len2 (h : Lot 0 size one) (h' : Lot 0 size other) : (Lk01.inter one other).length = other.length ↔ Lk01.inter one other = other := by
  have e : Lk01.inter one other = Lk01.inter other one := asc_eq (h.inter (other := other)).1 (h'.inter (other := one)).1 fun k => by
    unfold Lk01.inter
    simp only [List.mem_filter, decide_eq_true_eq]
    exact And.comm
  rw [e]
  exact inter_len1
def wd (one other : List Int) : Str :=
  if one = other then "equal" else if inter one other = [] then "apart" else if (inter one other).length = one.length then "within" else if (inter one other).length = other.length then "around" else "across"
theorem eqD_str (x y : Str) : eqD S (.str x) (.str y) = some (x == y) := rfl
theorem eqD_int (x y : Int) : eqD S (.int x) (.int y) = some (x == y) := rfl
theorem standing_ok (h1 : 1 ≤ size) (h2 : size ≤ 20) (h : Lot 0 size one) (h' : Lot 0 size other) : d_standing [.int size, tI one, tI other] S = .ok (.str (wd one other)) S := by
  have e1 := req_two (S := S ++ nones 5) h1 h2 h h'
  have e2 := bits_ok (S := S ++ nones 5) (h.sm h2) (by have := h.ln h2; omega)
  have e3 := bits_ok (S := S ++ nones 5) (h'.sm h2) (by have := h'.ln h2; omega)
  have e4 : Builtin.bitAnd ((bN one : Nat) : Int) ((bN other : Nat) : Int) = ((bN (Lk01.inter one other) : Nat) : Int) := by
    rw [bitAnd_pp (by omega) (by omega)]
    simp only [Int.toNat_natCast, bN_inter h h']
  have i0 : bN (Lk01.inter one other) = 0 ↔ Lk01.inter one other = [] := bN_inj (other := []) h.inter ⟨List.Pairwise.nil, fun x hx => by simp at hx⟩
  have i1 : bN (Lk01.inter one other) = bN one ↔ (Lk01.inter one other).length = one.length := (bN_inj h.inter h).trans inter_len1.symm
  have i2 : bN (Lk01.inter one other) = bN other ↔ (Lk01.inter one other).length = other.length := (bN_inj h.inter h').trans (inter_len2 h h').symm
  have j1 : ((bN (Lk01.inter one other) : Nat) : Int) = ((bN one : Nat) : Int) ↔ (Lk01.inter one other).length = one.length := Int.natCast_inj.trans i1
  have j2 : ((bN (Lk01.inter one other) : Nat) : Int) = ((bN other : Nat) : Int) ↔ (Lk01.inter one other).length = other.length := Int.natCast_inj.trans i2
  unfold d_standing
  rw [ev_def]
  unfold b_standing wd
  by_cases c0 : one = other
  · subst c0
    simp [e1, dEq, eqD_tI]
  · by_cases c1 : Lk01.inter one other = []
    · have b0 : bN [] = 0 := rfl
      simp [e1, e2, e3, e4, dEq, eqD_tI, eqD_int, c0, c1, b0]
    · by_cases c2 : (Lk01.inter one other).length = one.length
      · simp [e1, e2, e3, e4, dEq, eqD_tI, eqD_int, c0, c1, i0, j1, c2]
      · by_cases c3 : (Lk01.inter one other).length = other.length
        · have c2' : ¬ other.length = one.length := fun z => c2 (by rw [c3, z])
          simp [e1, e2, e3, e4, dEq, eqD_tI, eqD_int, c0, c1, i0, j1, c3, j2, c2']
        · simp [e1, e2, e3, e4, dEq, eqD_tI, eqD_int, c0, c1, i0, j1, c2, c3, j2]
/-! the rest -/
theorem together_ok (h1 : 1 ≤ size) (h2 : size ≤ 20) (h : Lot 0 size one) (h' : Lot 0 size other) : d_together [.int size, tI one, tI other] S = .ok (tI (usort (one ++ other))) S := by
  have e1 := req_two (S := S ++ nones 3) h1 h2 h h'
  have e2 := bits_ok (S := S ++ nones 3) (h.sm h2) (by have := h.ln h2; omega)
  have e3 := bits_ok (S := S ++ nones 3) (h'.sm h2) (by have := h'.ln h2; omega)
  have e4 : Builtin.bitOr ((bN one : Nat) : Int) ((bN other : Nat) : Int) = ((bN one ||| bN other : Nat) : Int) := by
    rw [L2.bitOr_nn (by omega) (by omega)]
    simp only [Int.toNat_natCast]
  have e5 := lot_of_ok (n := bN one ||| bN other) (size := size) (S := S ++ nones 3) (by omega) h2
  have e6 : ((rg size.toNat).filter fun i => (bN one ||| bN other).testBit i.toNat) = usort (one ++ other) := asc_eq ((rg_pw _).sublist List.filter_sublist) (pw_usort _) fun k => by
    rw [mem_usort, List.mem_filter, rg_mem, List.mem_append, Nat.testBit_or, bN_bit h.1 (h.nn (Int.le_refl _)), bN_bit h'.1 (h'.nn (Int.le_refl _))]
    constructor
    · rintro ⟨⟨a, b⟩, c⟩
      have hk : ((k.toNat : Nat) : Int) = k := by omega
      rw [hk] at c
      simpa using c
    · intro c
      have hb : 0 ≤ k ∧ k < size := by
        rcases c with c | c
        · exact h.2 k c
        · exact h'.2 k c
      have hk : ((k.toNat : Nat) : Int) = k := by omega
      rw [hk]
      exact ⟨by omega, by simpa using c⟩
  rw [e6] at e5
  unfold d_together
  rw [ev_def]
  unfold b_together
  simp [e1, e2, e3, e4, e5]
theorem common_ok (h1 : 1 ≤ size) (h2 : size ≤ 20) (h : Lot 0 size one) (h' : Lot 0 size other) : d_common [.int size, tI one, tI other] S = .ok (tI (Lk01.inter one other)) S := by
  have e1 := req_two (S := S ++ nones 3) h1 h2 h h'
  have e2 := bits_ok (S := S ++ nones 3) (h.sm h2) (by have := h.ln h2; omega)
  have e3 := bits_ok (S := S ++ nones 3) (h'.sm h2) (by have := h'.ln h2; omega)
  have e4 : Builtin.bitAnd ((bN one : Nat) : Int) ((bN other : Nat) : Int) = ((bN (Lk01.inter one other) : Nat) : Int) := by
    rw [bitAnd_pp (by omega) (by omega)]
    simp only [Int.toNat_natCast, bN_inter h h']
  have e5 := lot_of_ok (n := bN (Lk01.inter one other)) (size := size) (S := S ++ nones 3) (by omega) h2
  have hi := h.inter (other := other)
  have e6 : ((rg size.toNat).filter fun i => (bN (Lk01.inter one other)).testBit i.toNat) = Lk01.inter one other := asc_eq ((rg_pw _).sublist List.filter_sublist) hi.1 fun k => by
    rw [List.mem_filter, rg_mem, bN_bit hi.1 (hi.nn (Int.le_refl _))]
    constructor
    · rintro ⟨⟨a, b⟩, c⟩
      have hk : ((k.toNat : Nat) : Int) = k := by omega
      rw [hk] at c
      simpa using c
    · intro c
      have hb := hi.2 k c
      have hk : ((k.toNat : Nat) : Int) = k := by omega
      rw [hk]
      exact ⟨by omega, by simpa using c⟩
  rw [e6] at e5
  unfold d_common
  rw [ev_def]
  unfold b_common
  simp [e1, e2, e3, e4, e5]
/-- who is left out -/
def outs (size : Int) (one : List Int) : List Int := (rg size.toNat).filter fun x => !decide (x ∈ one)
theorem outs_comp {i : Nat} {ρ : Rho} {r : Nat} (hi : i < ρ.length) (hr : ρ[r]? = some (some (tI one))) (hn : i ≠ r) : compL (gN i) (mTB (mOp dNotIn (mVar i) (mVar r))) (mVar i) ρ ((rg size.toNat).map D.int) S = .ok ((outs size one).map D.int) S := by
  rw [compL_filter (fun d => match d with | .int i => !decide (i ∈ one) | _ => false) _ fun d hm => ?_]
  · rw [fil_map _ (fun i => !decide (i ∈ one)) fun i => rfl]; rfl
  · obtain ⟨x, hx, rfl⟩ := List.mem_map.mp hm
    have h1 : (ρ.set i (some (.int x)))[i]? = some (some (.int x)) := List.getElem?_set_self hi
    have h2 : (ρ.set i (some (.int x)))[r]? = some (some (tI one)) := by rw [List.getElem?_set_ne hn]; exact hr
    exact ⟨ρ.set i (some (.int x)), by simp [gN], by simp [h1, h2, dNotIn, inD_tI], by simp [h1], rfl, rfl⟩
theorem outs_len (h1 : 0 ≤ size) (h2 : size ≤ 20) : (outs size one).length ≤ 20 := by
  have := List.length_filter_le (fun x : Int => !decide (x ∈ one)) (rg size.toNat)
  rw [rg_len] at this
  unfold outs
  omega
theorem left_out_ok (h1 : 1 ≤ size) (h2 : size ≤ 20) (h : Lot 0 size one) : d_left_out [.int size, tI one] S = .ok (tI (outs size one)) S := by
  have e1 := req_size (S := S ++ nones 3) h1 h2
  have e2 := req_lot (S := S ++ nones 3) h2 h
  have e3 := outs_comp (S := S ++ nones 3) (size := size) (one := one) (i := 2) (r := 1) (ρ := [some (.int size), some (tI one), none]) (by simp) rfl (by decide)
  have hl : (outs size one).length ≤ 16777216 := by have := outs_len (one := one) (show 0 ≤ size by omega) h2; omega
  unfold d_left_out
  rw [ev_def]
  unfold b_left_out
  simp [e1, e2, wipeR, LINE, rng0, e3, hl, show size ≤ 16777216 by omega, show -16777216 ≤ size by omega]
/-- those of the one who are in the other -/
theorem inter_comp {i : Nat} {ρ : Rho} {r : Nat} (hi : i < ρ.length) (hr : ρ[r]? = some (some (tI other))) (hn : i ≠ r) : compL (gN i) (mTB (mOp dIn (mVar i) (mVar r))) (mVar i) ρ (one.map D.int) S = .ok ((Lk01.inter one other).map D.int) S := by
  rw [compL_filter (fun d => match d with | .int i => decide (i ∈ other) | _ => false) _ fun d hm => ?_]
  · rw [fil_map _ (fun i => decide (i ∈ other)) fun i => rfl]; rfl
  · obtain ⟨x, hx, rfl⟩ := List.mem_map.mp hm
    have h1 : (ρ.set i (some (.int x)))[i]? = some (some (.int x)) := List.getElem?_set_self hi
    have h2 : (ρ.set i (some (.int x)))[r]? = some (some (tI other)) := by rw [List.getElem?_set_ne hn]; exact hr
    exact ⟨ρ.set i (some (.int x)), by simp [gN], by simp [h1, h2, dIn, inD_tI], by simp [h1], rfl, rfl⟩
theorem inter_len : (Lk01.inter one other).length ≤ one.length := List.length_filter_le _ _
theorem eqD_nn (f g : Bool) : eqD S (.lst f []) (.lst g []) = some true := eqD_lI S f g [] []
theorem word_ok (hl : one.length ≤ 1000) (hl' : other.length ≤ 1000) : d__law_word [tI one, tI other] S = .ok (.str (wd one other)) S := by
  have e1 := inter_comp (S := S ++ nones 4) (one := one) (other := other) (i := 3) (r := 1) (ρ := [some (tI one), some (tI other), none, none]) (by simp) rfl (by decide)
  have hl2 : (Lk01.inter one other).length ≤ 16777216 := by have := inter_len (one := one) (other := other); omega
  have hl3 : one.length ≤ 16777216 := by omega
  have hl4 : other.length ≤ 16777216 := by omega
  unfold d__law_word
  rw [ev_def]
  unfold b__law_word wd
  by_cases c0 : one = other
  · subst c0
    simp [wipeR, LINE, e1, hl2, hl3, hl4, Int.natCast_inj, dEq, eqD_tI]
  · by_cases c1 : Lk01.inter one other = []
    · simp [wipeR, LINE, e1, hl2, hl3, hl4, Int.natCast_inj, dEq, eqD_tI, eqD_lI_nil, eqD_nn, eqD_int, c0, c1]
    · by_cases c2 : (Lk01.inter one other).length = one.length
      · simp [wipeR, LINE, e1, hl2, hl3, hl4, Int.natCast_inj, dEq, eqD_tI, eqD_lI_nil, eqD_int, c0, c1, c2]
      · by_cases c3 : (Lk01.inter one other).length = other.length
        · have c2' : ¬ other.length = one.length := fun z => c2 (by rw [c3, z])
          simp [wipeR, LINE, e1, hl2, hl3, hl4, Int.natCast_inj, dEq, eqD_tI, eqD_lI_nil, eqD_int, c0, c1, c2, c3, c2']
        · simp [wipeR, LINE, e1, hl2, hl3, hl4, Int.natCast_inj, dEq, eqD_tI, eqD_lI_nil, eqD_int, c0, c1, c2, c3]
end
end Lk01

namespace Lk01
open PySem PySem.Spec PyProof.Rows L2 Dv
set_option autoImplicit false
section
variable {size : Int} {S : Store} {n L : Nat}
theorem usort_len : ∀ xs : List Int, (usort xs).length ≤ xs.length
  | [] => Nat.le_refl _
  | x :: xs => by
    have h : ∀ (k : Int) (ys : List Int), (uins k ys).length ≤ ys.length + 1 := fun k ys => by
      induction ys with
      | nil => simp [uins]
      | cons y ys ih =>
        unfold uins
        split
        · simp
        · split
          · simp
          · simp only [List.length_cons]; omega
    have := usort_len xs
    have := h x (usort xs)
    simp only [usort, List.length_cons]
    omega
theorem lotB_eq (size : Int) (xs : List Int) : lotB size xs = (xs.all (inR size) && decide (xs = usort xs)) := by
  unfold lotB
  congr 1
  rw [Bool.eq_iff_iff, asc_iff, decide_eq_true_eq]
  constructor
  · intro h
    exact asc_eq h (pw_usort xs) fun k => mem_usort.symm
  · intro h
    rw [h]
    exact pw_usort xs
/-- the loop's slots -/
def Rr (n L : Nat) (size : Int) (x2 x3 x4 x5 x6 x8 x9 : Option D) : Rho := [some (.loc n), some (.int size), x2, x3, x4, x5, x6, some (.loc (L + 7)), x8, x9, none]
/-- the loop's body -/
def bodyM (base : Nat) : MS := (mSeq (mSetV base 9 (mAnd (mBlt cIsi (aCons (mVar 8) (aCons (mK (.ty "tuple")) aNil))) (mOp dEq (mComp (srT (mVar 8)) [2] (gN 2) (mOrT (mNotT (mT (mBlt cIsi (aCons (mVar 2) (aCons (mK (.ty "int")) aNil))))) (mT (mBlt cIsi (aCons (mVar 2) (aCons (mK (.ty "bool")) aNil))))) (mVar 2)) (mLst aNil))))
  (mDrop (mMut fAppend (mVar 7) (aCons (mAnd (mVar 9) (mAnd (mOp dEq (mComp (srT (mVar 8)) [2] (gN 2) (mNotT (mTB (mChain dLe dLt (mK (.int 0)) (mVar 2) (mVar 1)))) (mVar 2)) (mLst aNil)) (mOp dEq (mBlt cList (aCons (mVar 8) aNil)) (mSortSetT (mVar 8))))) aNil))))
/-- a value and what is due of it -/
inductive Val (size : Int) : D → Bool → Prop
  | vI (xs : List Int) : xs.length ≤ 50 → Val size (tI xs) (lotB size xs)
  | vN {d : D} : noTup d = true → Val size d false
  | vB (xs : List Int) (d : D) : xs.length ≤ 50 → d = .bl true ∨ d = .str "0" ∨ d = .non → Val size (.tup (xs.map D.int ++ [d])) false
/-- the look for what is no int -/
theorem fine_comp (xs : List Int) (x2 x3 x4 x5 x6 x9 : Option D) (d8 : D) (tl : List D) (htl : tl = [] ∨ ∃ d, tl = [d] ∧ (d = .bl true ∨ d = .str "0" ∨ d = .non)) :
    compL (gN 2) (mOrT (mNotT (mT (mBlt cIsi (aCons (mVar 2) (aCons (mK (.ty "int")) aNil))))) (mT (mBlt cIsi (aCons (mVar 2) (aCons (mK (.ty "bool")) aNil))))) (mVar 2) (Rr n L size none x3 x4 x5 x6 (some d8) x9) (xs.map D.int ++ tl) S = .ok tl S := by
  have e : (xs.map D.int ++ tl).filter (fun d => match d with | .int _ => false | _ => true) = tl := by
    rw [List.filter_append]
    have h1 : (xs.map D.int).filter (fun d => match d with | .int _ => false | _ => true) = [] := List.filter_eq_nil_iff.mpr fun d hd => by
      obtain ⟨i, _, rfl⟩ := List.mem_map.mp hd
      simp
    rw [h1, List.nil_append]
    rcases htl with rfl | ⟨d, rfl, rfl | rfl | rfl⟩ <;> rfl
  rw [compL_filter (fun d => match d with | .int _ => false | _ => true) _ fun d hm => ?_, e]
  rcases List.mem_append.mp hm with hm | hm
  · obtain ⟨i, _, rfl⟩ := List.mem_map.mp hm
    exact ⟨Rr n L size (some (.int i)) x3 x4 x5 x6 (some d8) x9, by simp [gN, Rr], by simp [Rr, isTy, tyNames], by simp [Rr], rfl, rfl⟩
  · rcases htl with rfl | ⟨d', rfl, h⟩
    · simp at hm
    · rw [List.mem_singleton] at hm
      subst hm
      rcases h with rfl | rfl | rfl
      · exact ⟨Rr n L size (some (.bl true)) x3 x4 x5 x6 (some d8) x9, by simp [gN, Rr], by simp [Rr, isTy, tyNames], by simp [Rr], rfl, rfl⟩
      · exact ⟨Rr n L size (some (.str "0")) x3 x4 x5 x6 (some d8) x9, by simp [gN, Rr], by simp [Rr, isTy, tyNames], by simp [Rr], rfl, rfl⟩
      · exact ⟨Rr n L size (some .non) x3 x4 x5 x6 (some d8) x9, by simp [gN, Rr], by simp [Rr, isTy, tyNames], by simp [Rr], rfl, rfl⟩
/-- the look for what is out of range -/
theorem range_comp (xs : List Int) (x3 x4 x5 x6 x9 : Option D) (d8 : D) :
    compL (gN 2) (mNotT (mTB (mChain dLe dLt (mK (.int 0)) (mVar 2) (mVar 1)))) (mVar 2) (Rr n L size none x3 x4 x5 x6 (some d8) x9) (xs.map D.int) S = .ok ((xs.filter fun x => !inR size x).map D.int) S := by
  rw [compL_filter (fun d => match d with | .int i => !inR size i | _ => false) _ fun d hm => ?_]
  · rw [fil_map _ (fun i => !inR size i) fun i => rfl]
  · obtain ⟨i, _, rfl⟩ := List.mem_map.mp hm
    refine ⟨Rr n L size (some (.int i)) x3 x4 x5 x6 (some d8) x9, by simp [gN, Rr], ?_, by simp [Rr], rfl, rfl⟩
    by_cases h : 0 ≤ i <;> simp [Rr, inR, h]
theorem out_nil (xs : List Int) : ((xs.filter fun x => !inR size x) = []) ↔ xs.all (inR size) = true := by
  rw [List.filter_eq_nil_iff, List.all_eq_true]
  constructor
  · intro h x hx; have := h x hx; simpa using this
  · intro h x hx; simp [h x hx]
theorem turn_ok {v : D} {r : Bool} {bs : List D} {x2 x3 x4 x5 x6 x9 : Option D} (hv : Val size v r) (hc : S[L + 7]? = some (some (.lst true bs))) (hb : bs.length < 1000) :
    ∃ b9, bodyM L (Rr n L size x2 x3 x4 x5 x6 (some v) x9) S = .nx (Rr n L size x2 x3 x4 x5 x6 (some v) (some (.bl b9))) (S.set (L + 7) (some (.lst true (bs ++ [.bl r])))) := by
  have hb2 : bs.length < 16777216 := by omega
  have ha : ∀ r : Bool, kMu2 fAppend (L + 7) [.bl r] S = .ok .non (S.set (L + 7) (some (.lst true (bs ++ [.bl r])))) := fun r => kMu2_append hc rfl hb2
  unfold bodyM
  cases hv with
  | vI xs hl =>
    have e1 := fine_comp (S := S) (n := n) (L := L) (size := size) xs x2 x3 x4 x5 x6 x9 (tI xs) [] (.inl rfl)
    rw [List.append_nil] at e1
    have e2 := range_comp (S := S) (n := n) (L := L) (size := size) xs x3 x4 x5 x6 (some (.bl true)) (tI xs)
    refine ⟨true, ?_⟩
    have hl2 : (xs.filter fun x => !inR size x).length ≤ 16777216 := by have := List.length_filter_le (fun x => !inR size x) xs; omega
    have hl3 : xs.length ≤ 1000 := by omega
    have hl4 : (usort xs).length < 64 := by have := usort_len xs; omega
    simp only [Rr] at e1 e2
    rw [lotB_eq]
    by_cases hr : xs.all (inR size) = true
    · have hf : (xs.filter fun x => !inR size x) = [] := (out_nil xs).mpr hr
      rw [hf] at e2
      simp [Rr, isTy, tyNames, wipeR, e1, e2, LINE, dEq, eqD_nn, eqD_lI, cellL_of hc, hr, hl3, hl4, ha]
    · have hf : ¬ (xs.filter fun x => !inR size x) = [] := fun z => hr ((out_nil xs).mp z)
      have hr2 : xs.all (inR size) = false := by simpa using hr
      have e3 : ∀ f g : Bool, eqD S (.lst f ((xs.filter fun x => !inR size x).map D.int)) (.lst g []) = some false := fun f g => by
        rw [eqD_lI_nil]; simp [hf]
      simp [Rr, isTy, tyNames, wipeR, e1, e2, LINE, dEq, eqD_nn, e3, cellL_of hc, hr2, hl2, ha]
  | vN hn =>
    refine ⟨false, ?_⟩
    cases v with
    | lst f xs => cases f with
      | false => simp [Rr, isTy, tyNames, cellL_of hc, ha, LINE]
      | true => cases hn
    | non => simp [Rr, isTy, tyNames, cellL_of hc, ha, LINE]
    | int i => simp [Rr, isTy, tyNames, cellL_of hc, ha, LINE]
    | str i => simp [Rr, isTy, tyNames, cellL_of hc, ha, LINE]
    | dct f xs => cases f with
      | false => simp [Rr, isTy, tyNames, cellL_of hc, ha, LINE]
      | true => cases hn
    | _ => cases hn
  | vB xs d hl hd =>
    refine ⟨false, ?_⟩
    have e1 := fine_comp (S := S) (n := n) (L := L) (size := size) xs x2 x3 x4 x5 x6 x9 (.tup (xs.map D.int ++ [d])) [d] (.inr ⟨d, rfl, hd⟩)
    simp only [Rr] at e1
    have e3 : ∀ f g : Bool, eqD S (.lst f [d]) (.lst g []) = some false := fun f g => by
      have hz : PyData.strOk (Str.ofString "0") = true := by decide +kernel
      rcases hd with rfl | rfl | rfl <;> simp [hz, eqD, vw, pyOf, toPy, toPyL, SeqAt.shaped, PyData.canLay0, PyData.canLayAll0, PyData.depth, PyData.depthAll, PyData.eqv, PyData.eqvAll]
    simp [Rr, isTy, tyNames, wipeR, e1, LINE, dEq, e3, cellL_of hc, ha]
end
end Lk01

namespace Lk01
open PySem PySem.Spec PyProof.Rows L2 Dv
set_option autoImplicit false
section
variable {size : Int} {S : Store} {n L : Nat}
theorem Val.cool {v : D} {r : Bool} (h : Val size v r) : Dv.plain v = true ∧ Dv.cool v = v := by
  cases h with
  | vI xs hl => exact ⟨rfl, rfl⟩
  | vN hn =>
    cases v with
    | lst f xs => cases f with
      | false => exact ⟨rfl, rfl⟩
      | true => cases hn
    | dct f xs => cases f with
      | false => exact ⟨rfl, rfl⟩
      | true => cases hn
    | _ => first | exact ⟨rfl, rfl⟩ | cases hn
  | vB xs d hl hd => exact ⟨rfl, rfl⟩
theorem Val.new {v : D} {r : Bool} (h : Val size v r) : isNew v = false := by
  rw [← h.cool.2]; exact isNew_cool v
theorem is_lot_val {v : D} {r : Bool} (h1 : 1 ≤ size) (h2 : size ≤ 20) (h : Val size v r) : d_is_lot [.int size, v] S = .ok (.bl r) S := by
  cases h with
  | vI xs hl => exact is_lot_ints h1 h2 (by omega)
  | vN hn => exact is_lot_noTup h1 h2 hn
  | vB xs d hl hd =>
    refine is_lot_no h1 h2 (fun x hx => ?_) (by simp; omega) ?_
    · rcases List.mem_append.mp hx with hx | hx
      · obtain ⟨i, _, rfl⟩ := List.mem_map.mp hx
        rfl
      · rw [List.mem_singleton] at hx
        subst hx
        rcases hd with rfl | rfl | rfl <;> rfl
    · rw [List.all_append]
      have : [d].all (perB size) = false := by rcases hd with rfl | rfl | rfl <;> rfl
      rw [this, Bool.and_false]
theorem loop_ok : ∀ (ps : List (D × Bool)) (bs : List D) (S : Store) (x2 x3 x4 x5 x6 x8 x9 : Option D), (∀ p ∈ ps, Val size p.1 p.2) → S[L + 7]? = some (some (.lst true bs)) → bs.length + ps.length < 1000 →
    ∃ x8' x9', forL (gN 8) (bodyM L) (ps.map (·.1)) (Rr n L size x2 x3 x4 x5 x6 x8 x9) S = .nx (Rr n L size x2 x3 x4 x5 x6 x8' x9') (S.set (L + 7) (some (.lst true (bs ++ ps.map fun p => .bl p.2))))
  | [], bs, S, x2, x3, x4, x5, x6, x8, x9, _, hc, _ => ⟨x8, x9, by
    simp only [List.map_nil, forL, List.append_nil]
    rw [set_self hc]⟩
  | p :: ps, bs, S, x2, x3, x4, x5, x6, x8, x9, h, hc, hb => by
    have hv := h p List.mem_cons_self
    simp only [List.length_cons] at hb
    obtain ⟨b9, e⟩ := turn_ok (n := n) (x2 := x2) (x3 := x3) (x4 := x4) (x5 := x5) (x6 := x6) (x9 := x9) hv hc (by omega)
    have hc2 : (S.set (L + 7) (some (.lst true (bs ++ [.bl p.2]))))[L + 7]? = some (some (.lst true (bs ++ [.bl p.2]))) := List.getElem?_set_self (get_lt hc)
    obtain ⟨x8', x9', e2⟩ := loop_ok ps (bs ++ [.bl p.2]) _ x2 x3 x4 x5 x6 (some p.1) (some (.bl b9)) (fun q hq => h q (List.mem_cons_of_mem _ hq)) hc2 (by simp only [List.length_append, List.length_cons, List.length_nil]; omega)
    refine ⟨x8', x9', ?_⟩
    have hg : gN 8 p.1 (Rr n L size x2 x3 x4 x5 x6 x8 x9) = some (Rr n L size x2 x3 x4 x5 x6 (some p.1) x9) := by
      unfold gN
      rw [if_pos hv.cool.1, hv.cool.2]
      rfl
    simp only [List.map_cons, forL, hg, e, e2]
    rw [List.set_set, List.append_assoc]
    rfl
theorem lots_comp (h1 : 1 ≤ size) (h2 : size ≤ 20) (x2 x3 x4 x5 x6 x9 : Option D) : ∀ (ps : List (D × Bool)), (∀ p ∈ ps, Val size p.1 p.2) →
    compL (gN 8) tYesM (mCall d_is_lot 2 (aCons (mVar 1) (aCons (mVar 8) aNil))) (Rr n L size x2 x3 x4 x5 x6 none x9) (ps.map (·.1)) S = .ok (ps.map fun p => .bl p.2) S
  | [], _ => rfl
  | p :: ps, h => by
    have hv := h p List.mem_cons_self
    have ih := lots_comp h1 h2 x2 x3 x4 x5 x6 x9 ps fun q hq => h q (List.mem_cons_of_mem _ hq)
    have hg : gN 8 p.1 (Rr n L size x2 x3 x4 x5 x6 none x9) = some (Rr n L size x2 x3 x4 x5 x6 (some p.1) x9) := by
      unfold gN
      rw [if_pos hv.cool.1, hv.cool.2]
      rfl
    have he : mCall d_is_lot 2 (aCons (mVar 1) (aCons (mVar 8) aNil)) (Rr n L size x2 x3 x4 x5 x6 (some p.1) x9) S = .ok (.bl p.2) S := by
      have hn := hv.new
      have e := is_lot_val (S := S) h1 h2 hv
      have ha : Dv.argsOk [.int size, p.1] = true ∧ Dv.coolA [.int size, p.1] = [.int size, p.1] := by
        exact ⟨by rw [ao_int, ao_plain hv.cool.1]; rfl, by rw [ca_int, ca_plain hv.cool.1, hv.cool.2]; rfl⟩
      simp [Rr, hn, ha.1, ha.2, e]
    simp only [List.map_cons, compL, hg, ev_yes, if_true, he, ih]
    rfl
/-! texts -/
theorem Sh.str {w k : Nat} {x : Str} (h : x.cps.size ≤ w) (h2 : (x.cps.toList.all fun c => decide (c < 16 ^ 8)) = true) : Sh w k (.str x) :=
  ⟨by simp [PyData.showable], by simp [PyData.hasDict], by simp [PyData.depth], by simpa [PyData.leavesShort] using h2, by simpa [PyData.weight] using h⟩
theorem sh_wd {k : Nat} (a b : List Int) : Sh 6 k (.str (wd a b)) := by
  unfold wd
  split
  · exact Sh.str (by decide) (by decide)
  · split
    · exact Sh.str (by decide) (by decide)
    · split
      · exact Sh.str (by decide) (by decide)
      · split
        · exact Sh.str (by decide) (by decide)
        · exact Sh.str (by decide) (by decide)
theorem sh_bls {k : Nat} : ∀ ps : List (D × Bool), ShA ps.length k (ps.map fun p => PyData.bool p.2)
  | [] => .nil
  | p :: ps => ShA.cons (Sh.bl p.2) (sh_bls ps) (by simp only [List.length_cons]; omega)
theorem toPy_bls : ∀ ps : List (D × Bool), toPyL (ps.map fun p => D.bl p.2) = some (ps.map fun p => PyData.bool p.2)
  | [] => by simp [toPyL]
  | p :: ps => by simp [toPyL, toPy, toPy_bls ps]
theorem repr_ok {f : Bool} {ds : List D} {qs : List PyData} {w k : Nat} (h : toPyL ds = some qs) (hs : ShA w k qs) (hw : w ≤ 1048576) (hk : k ≤ 59) : cRepr S [.lst f ds] = some (.str (PyData.shown (.list qs))) := by
  have := hs.list.ok rfl hw (by omega)
  simp [cRepr, vw, toPy, h, this]
theorem repr_cell {j : Nat} {f : Bool} {ds : List D} {qs : List PyData} {w k : Nat} (hc : S[j]? = some (some (.lst f ds))) (h : toPyL ds = some qs) (hs : ShA w k qs) (hw : w ≤ 1048576) (hk : k ≤ 59) : cRepr S [.loc j] = some (.str (PyData.shown (.list qs))) := by
  have := hs.list.ok rfl hw (by omega)
  simp [cRepr, vw, hc, toPy, h, this]
end
end Lk01

namespace Lk01
open PySem PySem.Spec PyProof.Rows L2 Dv
set_option autoImplicit false
section
variable {size : Int} {S : Store} {n L : Nat}
theorem Lot.drop {l : List Int} (h : Lot 0 size l) (k : Nat) : Lot 0 size (l.drop k) := ⟨h.1.sublist (List.drop_sublist k l), fun x hx => h.2 x (List.mem_of_mem_drop hx)⟩
theorem lot_rg (h : 0 ≤ size) : Lot 0 size (rg size.toNat) := ⟨rg_pw _, fun x hx => by have := rg_mem.mp hx; omega⟩
theorem lot_outs (h : 0 ≤ size) (one : List Int) : Lot 0 size (outs size one) := ⟨(rg_pw _).sublist List.filter_sublist, fun x hx => (lot_rg h).2 x (List.mem_filter.mp hx).1⟩
theorem rgD0 (k : Int) : rgD 0 k = (rg k.toNat).map D.int := by
  unfold rgD rg
  rw [List.map_map]
  simp only [Int.sub_zero]
  refine List.map_congr_left fun i _ => ?_
  simp
theorem dAdd_tI {a b : List Int} (h : a.length + b.length ≤ LINE) : dAdd S (tI a) (tI b) = some (tI (a ++ b)) := by
  simp [dAdd, vw, h, List.map_append]
theorem dAdd_lst (f g : Bool) (xs ys : List D) : dAdd S (.lst f xs) (.lst g ys) = if xs.length + ys.length ≤ LINE then some (.lst true (xs ++ ys)) else none := rfl
/-- what the draws give -/
theorem cut_ints (xs : List Int) (lo hi : Option Int) : ∃ ys : List Int, Dv.cutD (xs.map D.int) lo hi = ys.map D.int ∧ ys.length ≤ xs.length := by
  unfold Dv.cutD
  rw [← List.map_drop, ← List.map_take]
  refine ⟨_, rfl, ?_⟩
  rw [List.length_take, List.length_drop]
  omega
def near (one ys : List Int) (size : Int) : List (D × Bool) :=
  [(tI one, lotB size one), (.lst false (one.map D.int), false), (tI one.reverse, lotB size one.reverse), (tI (one ++ ys), lotB size (one ++ ys)), (tI (one ++ [size]), lotB size (one ++ [size])), (tI (-1 :: one), lotB size (-1 :: one)),
    (.tup (one.map D.int ++ [.bl true]), false), (.non, false), (.int 0, false), (.str "0", false), (.dct false [], false), (.tup (one.map D.int ++ [.str "0"]), false), (.tup (([] : List Int).map D.int ++ [.non]), false), (tI [1000000000000000000000000000000000000000000000000000000000000], lotB size [1000000000000000000000000000000000000000000000000000000000000])]
theorem near_ok {one ys : List Int} (h : one.length ≤ 20) (h2 : ys.length ≤ 20) : ∀ p ∈ near one ys size, Val size p.1 p.2 := by
  intro p hp
  simp only [near, List.mem_cons, List.mem_nil_iff, or_false] at hp
  rcases hp with rfl | rfl | rfl | rfl | rfl | rfl | rfl | rfl | rfl | rfl | rfl | rfl | rfl | rfl
  · exact .vI _ (by omega)
  · exact .vN rfl
  · exact .vI _ (by simp; omega)
  · exact .vI _ (by simp; omega)
  · exact .vI _ (by simp; omega)
  · exact .vI _ (by simp; omega)
  · exact .vB _ _ (by omega) (.inl rfl)
  · exact .vN rfl
  · exact .vN rfl
  · exact .vN rfl
  · exact .vN rfl
  · exact .vB _ _ (by omega) (.inr (.inl rfl))
  · exact .vB _ _ (by simp) (.inr (.inr rfl))
  · exact .vI _ (by simp)
theorem right_ok {n : Nat} {S : Store} (h : Bag n S) : ∃ S', d__law_right [.loc n] S = .ok (.bl true) S' ∧ Bag n S' ∧ At n S S' := by
  have hn := h.lt
  -- the size
  obtain ⟨x1, S1, hx1, e1, b1, a1⟩ := one_of_ok (n := n) (S := S ++ nones 11) (xs := [.int 1, .int 2, .int 4, .int 7, .int 20]) h.app (by simp) (by simp) (by simp)
  obtain ⟨size, rfl, hs1, hs2⟩ : ∃ p : Int, x1 = .int p ∧ 1 ≤ p ∧ p ≤ 20 := by
    simp only [List.mem_cons, List.mem_nil_iff, or_false] at hx1
    rcases hx1 with rfl | rfl | rfl | rfl | rfl <;> exact ⟨_, rfl, by decide, by decide⟩
  have hs0 : 0 ≤ size := by omega
  -- the one lot
  obtain ⟨one, S2, e2, l2, b2, a2⟩ := lot_ok b1 hs0 hs2
  have hl2 := l2.ln hs2
  -- the other
  obtain ⟨lot3, S3, e3, l3, b3, a3⟩ := lot_ok b2 hs0 hs2
  have outsC : ∀ S, compL (gN 10) (mTB (mOp dNotIn (mVar 10) (mVar 2))) (mVar 10) [some (.loc n), some (.int size), some (tI one), none, none, none, none, none, none, none, none] ((rg size.toNat).map D.int) S = .ok ((outs size one).map D.int) S := fun S => outs_comp (by simp) rfl (by decide)
  obtain ⟨x4, S4, hx4, e4, b4, a4⟩ := one_of_ok (n := n) (S := S3) (xs := [tI lot3, tI (one.drop 1), tI one, tI (rg size.toNat), tI (outs size one)]) b3 (by simp) (by simp) (by simp)
  obtain ⟨other, rfl, l4⟩ : ∃ l : List Int, x4 = tI l ∧ Lot 0 size l := by
    simp only [List.mem_cons, List.mem_nil_iff, or_false] at hx4
    rcases hx4 with rfl | rfl | rfl | rfl | rfl
    · exact ⟨_, rfl, l3⟩
    · exact ⟨_, rfl, l2.drop 1⟩
    · exact ⟨_, rfl, l2⟩
    · exact ⟨_, rfl, lot_rg hs0⟩
    · exact ⟨_, rfl, lot_outs hs0 one⟩
  have hl4 := l4.ln hs2
  obtain ⟨z, hz⟩ := (((a1.trans a2).trans a3).trans a4).app hn
  have hol := outs_len (one := one) hs0 hs2
  have hr : rgFine 0 size = true := by simp [rgFine]; omega
  have cut1' : ∀ S, dCut S (tI one) (some 1) none = some (tI (one.drop 1)) := fun S => by simp only [dCut, vw, cut1]
  obtain ⟨ys, hys, hysl⟩ := cut_ints one (some (-1)) none
  have cut2' : ∀ S, dCut S (tI one) (some (-1)) none = some (tI ys) := fun S => by simp only [dCut, vw, hys]
  have st1 : ∀ S, d_standing [.int size, tI one, tI other] S = .ok (.str (wd one other)) S := fun S => standing_ok hs1 hs2 l2 l4
  have st2 : ∀ S, d_standing [.int size, tI other, tI one] S = .ok (.str (wd other one)) S := fun S => standing_ok hs1 hs2 l4 l2
  have tg : ∀ S, d_together [.int size, tI one, tI other] S = .ok (tI (usort (one ++ other))) S := fun S => together_ok hs1 hs2 l2 l4
  have cm : ∀ S, d_common [.int size, tI one, tI other] S = .ok (tI (inter one other)) S := fun S => common_ok hs1 hs2 l2 l4
  have lo : ∀ S, d_left_out [.int size, tI one] S = .ok (tI (outs size one)) S := fun S => left_out_ok hs1 hs2 l2
  have w1 : ∀ S, d__law_word [tI one, tI other] S = .ok (.str (wd one other)) S := fun S => word_ok (by omega) (by omega)
  have w2 : ∀ S, d__law_word [tI other, tI one] S = .ok (.str (wd other one)) S := fun S => word_ok (by omega) (by omega)
  have ad : ∀ S, dAdd S (tI one) (tI other) = some (tI (one ++ other)) := fun S => dAdd_tI (by simp only [LINE]; omega)
  have ul : (usort (one ++ other)).length < 64 := by have := usort_len (one ++ other); simp only [List.length_append] at this; omega
  have ul2 : one.length + other.length ≤ 1000 := by omega
  have intC : ∀ S x4, compL (gN 10) (mTB (mOp dIn (mVar 10) (mVar 3))) (mVar 10) [some (.loc n), some (.int size), some (tI one), some (tI other), x4, none, none, none, none, none, none] (one.map D.int) S = .ok ((inter one other).map D.int) S := fun S x4 => inter_comp (by simp) rfl (by decide)
  have il : (inter one other).length ≤ 16777216 := by have := inter_len (one := one) (other := other); omega
  have outsC2 : ∀ S x3 x4 x5, compL (gN 10) (mTB (mOp dNotIn (mVar 10) (mVar 2))) (mVar 10) [some (.loc n), some (.int size), some (tI one), x3, x4, x5, none, none, none, none, none] ((rg size.toNat).map D.int) S = .ok ((outs size one).map D.int) S := fun S x3 x4 x5 => outs_comp (by simp) rfl (by decide)
  have lu : Lot 0 size (usort (one ++ other)) := ⟨pw_usort _, fun x hx => by
    rcases List.mem_append.mp (mem_usort.mp hx) with hx | hx
    · exact l2.2 x hx
    · exact l4.2 x hx⟩
  have sI : ∀ {l : List Int}, Lot 0 size l → Sh 160 1 (.tuple (l.map .int)) := fun {l} hl => by
    have h1 := hl.ln hs2
    exact ((ShA.ints (n := 0) fun i hi => by have := hl.2 i hi; omega).tuple).mono (by omega) (by omega)
  obtain ⟨T, rp⟩ : ∃ T : Str, ∀ S f, cRepr S [.lst f [.str (wd one other), .str (wd other one), tI (usort (one ++ other)), tI (inter one other), tI (outs size one)]] = some (.str T) :=
    ⟨_, fun S f => repr_ok (qs := [.str (wd one other), .str (wd other one), .tuple ((usort (one ++ other)).map .int), .tuple ((inter one other).map .int), .tuple ((outs size one).map .int)]) (w := 1000) (k := 1) (by simp [toPyL, toPy, toPyL_int])
      (ShA.cons (sh_wd _ _) (ShA.cons (sh_wd _ _) (ShA.cons (sI lu) (ShA.cons (sI l2.inter) (ShA.cons (sI (lot_outs hs0 one)) (ShA.nil (w := 0)) (Nat.le_refl _)) (Nat.le_refl _)) (Nat.le_refl _)) (Nat.le_refl _)) (by decide)) (by decide) (by decide)⟩
  have ne : ∀ S, dNe S (.str T) (.str T) = some (.bl false) := fun S => by simp [dNe, eqD_str]
  have rv : ∀ S, dRev S (tI one) = some (tI one.reverse) := fun S => by simp [dRev, vw, List.map_reverse]
  have d4 : ∀ S, dAdd S (tI one) (tI ys) = some (tI (one ++ ys)) := fun S => dAdd_tI (by simp only [LINE]; omega)
  have d5 : ∀ S, dAdd S (tI one) (.tup [.int size]) = some (tI (one ++ [size])) := fun S => dAdd_tI (b := [size]) (by simp only [LINE, List.length_cons, List.length_nil]; omega)
  have d6 : ∀ S, dAdd S (.tup [.int (-1)]) (tI one) = some (tI (-1 :: one)) := fun S => dAdd_tI (a := [-1]) (by simp only [LINE, List.length_cons, List.length_nil]; omega)
  have d7 : ∀ S d, dAdd S (tI one) (.tup [d]) = some (.tup (one.map D.int ++ [d])) := fun S d => by
    have : one.length + 1 ≤ LINE := by simp only [LINE]; omega
    simp [dAdd, vw, this]
  unfold d__law_right
  rw [ev_def]
  unfold b__law_right
  refine ⟨S.set n (some z), ?_, ?_, ⟨z, rfl⟩⟩
  · simp [-List.drop_one, -List.map_drop, -List.map_append, -List.map_reverse, e1, e2, e3, LINE, cut1', hr, rgD0, wipeR, rng0, outsC, show size ≤ 16777216 by omega, show -16777216 ≤ size by omega, show (outs size one).length ≤ 16777216 by omega, e4,
      st1, st2, tg, cm, lo, w1, w2, ad, ul, ul2, intC, il, outsC2, rp, dAdd_lst, ne, rv, cut2', d4, d5, d6, d7, holdO]
    have hc5 : (S4.set (S.length + 7) (some (.lst true [])))[S.length + 7]? = some (some (.lst true [])) := List.getElem?_set_self (by rw [hz]; simp [nones])
    obtain ⟨x8, x9, lp⟩ := loop_ok (n := n) (L := S.length) (size := size) (near one ys size) [] (S4.set (S.length + 7) (some (.lst true []))) (some (tI one)) (some (tI other))
      (some (.lst false [.str (wd one other), .str (wd other one), tI (usort (one ++ other)), tI (inter one other), tI (outs size one)])) (some (.lst false [.str (wd one other), .str (wd other one), tI (usort (one ++ other)), tI (inter one other)]))
      (some (.lst false ((near one ys size).map (·.1)))) none none (near_ok hl2 (by omega)) hc5 (by simp [near])
    have cp : ∀ S', compL (gN 8) tYesM (mCall d_is_lot 2 (aCons (mVar 1) (aCons (mVar 8) aNil))) (Rr n S.length size (some (tI one)) (some (tI other))
      (some (.lst false [.str (wd one other), .str (wd other one), tI (usort (one ++ other)), tI (inter one other), tI (outs size one)])) (some (.lst false [.str (wd one other), .str (wd other one), tI (usort (one ++ other)), tI (inter one other)]))
      (some (.lst false ((near one ys size).map (·.1)))) none x9) ((near one ys size).map (·.1)) S' = .ok ((near one ys size).map fun p => .bl p.2) S' := fun S' => lots_comp hs1 hs2 _ _ _ _ _ _ _ (near_ok hl2 (by omega))
    have r1 : ∀ S' f, cRepr S' [.lst f ((near one ys size).map fun p => D.bl p.2)] = some (.str (PyData.shown (.list ((near one ys size).map fun p => PyData.bool p.2)))) := fun S' f => repr_ok (toPy_bls _) (sh_bls (k := 0) _) (by simp [near]) (by decide)
    rw [List.set_set] at lp
    have hc6 : (S4.set (S.length + 7) (some (.lst true ((near one ys size).map fun p => D.bl p.2))))[S.length + 7]? = some (some (.lst true ((near one ys size).map fun p => D.bl p.2))) := List.getElem?_set_self (by rw [hz]; simp [nones])
    have r2 := repr_cell hc6 (toPy_bls _) (sh_bls (k := 0) _) (by simp [near]) (by decide)
    have tk : (S4.set (S.length + 7) (some (.lst true ((near one ys size).map fun p => D.bl p.2)))).take S.length = S.set n (some z) := by
      have e : S.length = (S.set n (some z)).length := by simp
      rw [hz, e, app_set2, List.take_left]
    rw [List.nil_append] at lp
    generalize hP : (near one ys size).map (fun p => D.bl p.2) = P at *
    simp only [near, tI, List.map_cons, List.map_nil, Rr, bodyM, List.cons_append, List.nil_append] at lp cp
    rw [lp]
    have hPl : P.length ≤ 16777216 := by rw [← hP]; simp [near]
    simp [-List.map_append, -List.map_reverse, wipeR, cp, r1, r2, tk, dEq, eqD_str, LINE, hPl]
  · rw [hz] at b4
    exact b4.unapp (by simpa using hn)
end
end Lk01

namespace Lk01
open PySem PySem.Spec PyProof.Rows L2 Dv
set_option autoImplicit false
theorem right_comp {n : Nat} {ρ : Rho} (hρ : ρ[3]? = some (some (.loc n))) : ∀ (k : Nat) (lo : Int) (S : Store), Bag n S →
    ∃ S', compL (gN 4) (mNotT (mT (mCall d__law_right 1 (aCons (mVar 3) aNil)))) (mK (.int 1)) ρ (rngD lo k) S = .ok [] S' ∧ Bag n S' ∧ At n S S'
  | 0, lo, S, h => ⟨S, rfl, h, .refl h⟩
  | k + 1, lo, S, h => by
    obtain ⟨S1, e1, b1, a1⟩ := right_ok h
    obtain ⟨S2, e2, b2, a2⟩ := right_comp hρ k (lo + 1) S1 b1
    refine ⟨S2, ?_, b2, a1.trans a2⟩
    have h3 : (ρ.set 4 (some (.int lo)))[3]? = some (some (.loc n)) := by rw [List.getElem?_set_ne (by decide)]; exact hρ
    simp only [rngD, compL]
    simp [gN, h3, e1]
    exact e2
/-- a turn over the cells -/
def turnM (base : Nat) : MS := (mSeq (mSetO base 3 (mCall d__law_bag 2 (aCons (mVar 0) (aCons (mVar 1) aNil))))
  (mIfS (mTB (mOp dNe (mComp (srR1 (aCons (mK (.int 8)) aNil)) [4] (gN 4) (mNotT (mT (mCall d__law_right 1 (aCons (mVar 3) aNil)))) (mK (.int 1))) (mLst aNil))) (mRet (mK (.bl false))) mSkip))
theorem turns {ns : List Int} : ∀ (k lo : Nat) (S : Store) (x1 x3 : Option D), lo + k ≤ 3 → S.length = 5 →
    ∃ x1' x3' S', forL (gN 1) (turnM 0) (rngD (lo : Nat) k) [some (.rol (ns.map .int)), x1, none, x3, none] S = .nx [some (.rol (ns.map .int)), x1', none, x3', none] S' ∧ S'.length = 5
  | 0, lo, S, x1, x3, _, hl => ⟨x1, x3, S, rfl, hl⟩
  | k + 1, lo, S, x1, x3, hk, hl => by
    obtain ⟨g, b, e1, hb0, hb1⟩ := bag_ok (ns := ns) (at_ := lo) (S := S) (by omega)
    have hB : Bag 3 (S.set 3 (some (.lst true [.int g, .int b]))) := ⟨true, g, b, List.getElem?_set_self (by omega), hb0, hb1⟩
    obtain ⟨S2, e2, b2, a2⟩ := right_comp (ρ := [some (.rol (ns.map .int)), some (.int (lo : Nat)), none, some (.loc 3), none]) rfl 8 0 _ hB
    have hl2 : S2.length = 5 := by rw [a2.len]; simpa using hl
    obtain ⟨x1', x3', S', e3, hl3⟩ := turns (ns := ns) k (lo + 1) S2 (some (.int (lo : Nat))) (some (.loc 3)) (by omega) hl2
    refine ⟨x1', x3', S', ?_, hl3⟩
    have e4 : ((lo : Nat) : Int) + 1 = ((lo + 1 : Nat) : Int) := by omega
    simp only [rngD, forL, e4]
    have e5 : turnM 0 [some (.rol (ns.map .int)), some (.int (lo : Nat)), none, x3, none] S = .nx [some (.rol (ns.map .int)), some (.int (lo : Nat)), none, some (.loc 3), none] S2 := by
      unfold turnM
      simp [e1, holdO, wipeR, e2, LINE, dNe, eqD_nn]
    have e6 : gN 1 (.int (lo : Nat)) [some (.rol (ns.map .int)), x1, none, x3, none] = some [some (.rol (ns.map .int)), some (.int (lo : Nat)), none, x3, none] := by simp [gN]
    rw [e6]
    dsimp only
    rw [e5]
    exact e3
theorem law_true : True63 63 d_law := by
  intro ns hl
  obtain ⟨k, hk, hk2⟩ : ∃ k : Nat, (k = 1 ∨ k = 2 ∨ k = 3) ∧ (if (1 : Int) < (if ((ns.length : Nat) : Int) < 3 then ((ns.length : Nat) : Int) else 3) then (if ((ns.length : Nat) : Int) < 3 then ((ns.length : Nat) : Int) else 3) else 1) = (k : Int) := by
    by_cases h3 : ns.length < 3
    · by_cases h1 : 1 < ns.length
      · exact ⟨ns.length, by omega, by rw [if_pos (show ((ns.length : Nat) : Int) < 3 by omega), if_pos (by omega)]⟩
      · exact ⟨1, by omega, by rw [if_pos (show ((ns.length : Nat) : Int) < 3 by omega), if_neg (by omega)]; rfl⟩
    · exact ⟨3, by omega, by rw [if_neg (show ¬ ((ns.length : Nat) : Int) < 3 by omega), if_pos (by decide)]; rfl⟩
  obtain ⟨x1, x3, S', e1, hl1⟩ := turns (ns := ns) k 0 (nones 5) none none (by omega) (by simp [nones])
  have n0 : Lot 0 5 [] := ⟨List.Pairwise.nil, fun x hx => by simp at hx⟩
  have n01 : Lot 0 1 [] := ⟨List.Pairwise.nil, fun x hx => by simp at hx⟩
  have l1 : Lot 0 5 [1] := ⟨by simp, fun x hx => by simp at hx; omega⟩
  have l2 : Lot 0 5 [0, 1] := ⟨by simp, fun x hx => by simp at hx; omega⟩
  have l3 : Lot 0 5 [1, 2] := ⟨by simp, fun x hx => by simp at hx; omega⟩
  have s1 : ∀ S, d_standing [.int 5, .tup [], .tup [.int 1]] S = .ok (.str "apart") S := fun S => standing_ok (size := 5) (one := []) (other := [1]) (by decide) (by decide) n0 l1
  have s2 : ∀ S, d_standing [.int 5, .tup [], .tup []] S = .ok (.str "equal") S := fun S => standing_ok (size := 5) (one := []) (other := []) (by decide) (by decide) n0 n0
  have s3 : ∀ S, d_standing [.int 5, .tup [.int 0, .int 1], .tup [.int 1, .int 2]] S = .ok (.str "across") S := fun S => standing_ok (size := 5) (one := [0, 1]) (other := [1, 2]) (by decide) (by decide) l2 l3
  have s4 : ∀ S, d_left_out [.int 1, .tup []] S = .ok (.tup [.int 0]) S := fun S => left_out_ok (size := 1) (one := []) (by decide) (by decide) n01
  have s5 : ∀ S, d_is_lot [.int 3, .tup []] S = .ok (.bl true) S := fun S => is_lot_ints (size := 3) (one := []) (by decide) (by decide) (by decide)
  obtain ⟨T, hT⟩ : ∃ T : Str, ∀ S f, cRepr S [.lst f [.str "apart", .str "equal", .str "across", .tup [.int 0], .bl true]] = some (.str T) :=
    ⟨_, fun S f => repr_ok (qs := [.str "apart", .str "equal", .str "across", .tuple [.int 0], .bool true]) (w := 100) (k := 1) (by simp [toPyL, toPy])
      (ShA.cons (Sh.str (w := 6) (by decide) (by decide)) (ShA.cons (Sh.str (w := 6) (by decide) (by decide)) (ShA.cons (Sh.str (w := 6) (by decide) (by decide)) (ShA.cons (ShA.tuple (ShA.ints (ns := [0]) (n := 0) fun i hi => by simp at hi; omega)) (ShA.cons (Sh.bl true) (ShA.nil (w := 0)) (Nat.le_refl _)) (Nat.le_refl _)) (Nat.le_refl _)) (Nat.le_refl _)) (by decide)) (by decide) (by decide)⟩
  refine ⟨S'.take 0, ?_⟩
  have e0 : forL (gN 1) (turnM 0) (rngD 0 k) [some (.rol (ns.map .int)), none, none, none, none] (nones 5) = .nx [some (.rol (ns.map .int)), x1, none, x3, none] S' := e1
  unfold turnM at e0
  have hk3 : (k : Int) ≤ 16777216 := by omega
  have hk4 : -16777216 ≤ (k : Int) := by omega
  unfold d_law
  rw [ev_def]
  unfold b_law
  simp [hk2, hk3, hk4, e0, s1, s2, s3, s4, s5, hT, LINE, dEq, eqD_str]
end Lk01

set_option maxHeartbeats 0
namespace Lk01
open PySem PySem.Spec PyProof.Rows L2 Dv
def D__law_bag : He.DefD := ⟨("_law_bag", none), "_law_bag", "_law_bag", defArgs s__law_bag, defBody s__law_bag, defScope s__law_bag, [], []⟩
def D_is_whole : He.DefD := ⟨("is_whole", none), "is_whole", "is_whole", defArgs s_is_whole, defBody s_is_whole, defScope s_is_whole, [], []⟩
def D_is_within : He.DefD := ⟨("is_within", none), "is_within", "is_within", defArgs s_is_within, defBody s_is_within, defScope s_is_within, [], []⟩
def D_require_size : He.DefD := ⟨("require_size", none), "require_size", "require_size", defArgs s_require_size, defBody s_require_size, defScope s_require_size, [], []⟩
def D_is_person : He.DefD := ⟨("is_person", none), "is_person", "is_person", defArgs s_is_person, defBody s_is_person, defScope s_is_person, [], []⟩
def D_is_lot_of : He.DefD := ⟨("is_lot_of", none), "is_lot_of", "is_lot_of", defArgs s_is_lot_of, defBody s_is_lot_of, defScope s_is_lot_of, [], []⟩
def D_require_any_lot : He.DefD := ⟨("require_any_lot", none), "require_any_lot", "require_any_lot", defArgs s_require_any_lot, defBody s_require_any_lot, defScope s_require_any_lot, [], []⟩
def D_require_two : He.DefD := ⟨("require_two", none), "require_two", "require_two", defArgs s_require_two, defBody s_require_two, defScope s_require_two, [], []⟩
def D_bits : He.DefD := ⟨("bits", none), "bits", "bits", defArgs s_bits, defBody s_bits, defScope s_bits, [], []⟩
def D_standing : He.DefD := ⟨("standing", none), "standing", "standing", defArgs s_standing, defBody s_standing, defScope s_standing, [], []⟩
def D_left_out : He.DefD := ⟨("left_out", none), "left_out", "left_out", defArgs s_left_out, defBody s_left_out, defScope s_left_out, [], []⟩
def D_is_lot : He.DefD := ⟨("is_lot", none), "is_lot", "is_lot", defArgs s_is_lot, defBody s_is_lot, defScope s_is_lot, [], []⟩
def D__law_draw : He.DefD := ⟨("_law_draw", none), "_law_draw", "_law_draw", defArgs s__law_draw, defBody s__law_draw, defScope s__law_draw, [], []⟩
def D__law_one_of : He.DefD := ⟨("_law_one_of", none), "_law_one_of", "_law_one_of", defArgs s__law_one_of, defBody s__law_one_of, defScope s__law_one_of, [], []⟩
def D__law_lot : He.DefD := ⟨("_law_lot", none), "_law_lot", "_law_lot", defArgs s__law_lot, defBody s__law_lot, defScope s__law_lot, [], []⟩
def D_lot_of : He.DefD := ⟨("lot_of", none), "lot_of", "lot_of", defArgs s_lot_of, defBody s_lot_of, defScope s_lot_of, [], []⟩
def D_together : He.DefD := ⟨("together", none), "together", "together", defArgs s_together, defBody s_together, defScope s_together, [], []⟩
def D_common : He.DefD := ⟨("common", none), "common", "common", defArgs s_common, defBody s_common, defScope s_common, [], []⟩
def D__law_word : He.DefD := ⟨("_law_word", none), "_law_word", "_law_word", defArgs s__law_word, defBody s__law_word, defScope s__law_word, [], []⟩
def D__law_right : He.DefD := ⟨("_law_right", none), "_law_right", "_law_right", defArgs s__law_right, defBody s__law_right, defScope s__law_right, [], []⟩
def D_law : He.DefD := ⟨("law", none), "law", "law", defArgs s_law, defBody s_law, defScope s_law, [], []⟩
def fnl : List He.DefD := ([D__law_bag, D_is_whole, D_is_within, D_require_size, D_is_person, D_is_lot_of, D_require_any_lot, D_require_two, D_bits, D_standing, D_left_out, D_is_lot, D__law_draw, D__law_one_of, D__law_lot, D_lot_of, D_together, D_common, D__law_word, D__law_right, D_law] : List He.DefD)
def fal : List He.Fa := ([.int "GREAT" 1000000000000000000000000000000000000000000000000000000000000, .int "MAX_PEOPLE" 20, .free "abs", .free "all", .free "bool", .free "int", .free "isinstance", .free "len", .free "list", .free "max", .free "min", .free "range", .free "repr", .free "set", .free "sorted", .free "sum", .free "tuple", .free "zip", .glo "_law_bag", .glo "is_whole", .glo "is_within", .glo "require_size", .glo "is_person", .glo "is_lot_of", .glo "require_any_lot", .glo "require_two", .glo "bits", .glo "standing", .glo "left_out", .glo "is_lot"] : List He.Fa) ++ ([.glo "_law_draw", .glo "_law_one_of", .glo "_law_lot", .glo "lot_of", .glo "together", .glo "common", .glo "_law_word", .glo "_law_right", .glo "law"] : List He.Fa)
def nms : List PySem.Str := (["MeetError", "InvalidLot", "InvalidNumber", "MAX_PEOPLE", "GREAT", "is_whole", "is_within", "is_person", "is_lot_of", "bits", "lot_of", "require_size", "require_any_lot", "require_two", "is_lot", "standing", "together", "common", "left_out", "_law_bag", "_law_draw", "_law_one_of", "_law_lot", "_law_word", "_law_right"] : List PySem.Str)
abbrev R : PySem.W.OpenRow := PySem.W.OpenLaw.row PySem.Challenge.rw_whomet_k01_whole_two_lots
abbrev hk : PySem.W.Hook := He.hookD 5 fal fnl
def ob (s : PySem.W.SharedT) : He.AlD := He.obsDG 5 fal fnl (HandSHeadRun.getT s)
theorem ob_eq (s : PySem.W.SharedT) : ob s = hk.obs s.abs := He.obsDG_eq (HandSHeadRun.getT_eq s)
theorem run (w : World) : HandSHeadRun.RunEq R (PySem.W.view R.prog [28]) hk ob 3000 nms w := by
  intro os
  kernel_rfl
theorem mg_of {G : Gd} {h : Heap} (X : G.K.In h) (N : h.Ns mainGlobals G.mg) (c : He.SaysD fal fnl G.K) : Mg G where
  c_GREAT := He.int_ok X N (c.fact 0 (f := .int "GREAT" 1000000000000000000000000000000000000000000000000000000000000) rfl)
  c_MAX_PEOPLE := He.int_ok X N (c.fact 1 (f := .int "MAX_PEOPLE" 20) rfl)
  b_abs := He.free_ok X N (c.fact 2 (f := .free "abs") rfl)
  b_all := He.free_ok X N (c.fact 3 (f := .free "all") rfl)
  b_bool := He.free_ok X N (c.fact 4 (f := .free "bool") rfl)
  b_int := He.free_ok X N (c.fact 5 (f := .free "int") rfl)
  b_isinstance := He.free_ok X N (c.fact 6 (f := .free "isinstance") rfl)
  b_len := He.free_ok X N (c.fact 7 (f := .free "len") rfl)
  b_list := He.free_ok X N (c.fact 8 (f := .free "list") rfl)
  b_max := He.free_ok X N (c.fact 9 (f := .free "max") rfl)
  b_min := He.free_ok X N (c.fact 10 (f := .free "min") rfl)
  b_range := He.free_ok X N (c.fact 11 (f := .free "range") rfl)
  b_repr := He.free_ok X N (c.fact 12 (f := .free "repr") rfl)
  b_set := He.free_ok X N (c.fact 13 (f := .free "set") rfl)
  b_sorted := He.free_ok X N (c.fact 14 (f := .free "sorted") rfl)
  b_sum := He.free_ok X N (c.fact 15 (f := .free "sum") rfl)
  b_tuple := He.free_ok X N (c.fact 16 (f := .free "tuple") rfl)
  b_zip := He.free_ok X N (c.fact 17 (f := .free "zip") rfl)
  g__law_bag := He.glo_ok X N (c.fact 18 (f := .glo "_law_bag") rfl)
  d__law_bag := c.def_ 0 (d := D__law_bag) rfl
  g_is_whole := He.glo_ok X N (c.fact 19 (f := .glo "is_whole") rfl)
  d_is_whole := c.def_ 1 (d := D_is_whole) rfl
  g_is_within := He.glo_ok X N (c.fact 20 (f := .glo "is_within") rfl)
  d_is_within := c.def_ 2 (d := D_is_within) rfl
  g_require_size := He.glo_ok X N (c.fact 21 (f := .glo "require_size") rfl)
  d_require_size := c.def_ 3 (d := D_require_size) rfl
  g_is_person := He.glo_ok X N (c.fact 22 (f := .glo "is_person") rfl)
  d_is_person := c.def_ 4 (d := D_is_person) rfl
  g_is_lot_of := He.glo_ok X N (c.fact 23 (f := .glo "is_lot_of") rfl)
  d_is_lot_of := c.def_ 5 (d := D_is_lot_of) rfl
  g_require_any_lot := He.glo_ok X N (c.fact 24 (f := .glo "require_any_lot") rfl)
  d_require_any_lot := c.def_ 6 (d := D_require_any_lot) rfl
  g_require_two := He.glo_ok X N (c.fact 25 (f := .glo "require_two") rfl)
  d_require_two := c.def_ 7 (d := D_require_two) rfl
  g_bits := He.glo_ok X N (c.fact 26 (f := .glo "bits") rfl)
  d_bits := c.def_ 8 (d := D_bits) rfl
  g_standing := He.glo_ok X N (c.fact 27 (f := .glo "standing") rfl)
  d_standing := c.def_ 9 (d := D_standing) rfl
  g_left_out := He.glo_ok X N (c.fact 28 (f := .glo "left_out") rfl)
  d_left_out := c.def_ 10 (d := D_left_out) rfl
  g_is_lot := He.glo_ok X N (c.fact 29 (f := .glo "is_lot") rfl)
  d_is_lot := c.def_ 11 (d := D_is_lot) rfl
  g__law_draw := He.glo_ok X N (c.fact 30 (f := .glo "_law_draw") rfl)
  d__law_draw := c.def_ 12 (d := D__law_draw) rfl
  g__law_one_of := He.glo_ok X N (c.fact 31 (f := .glo "_law_one_of") rfl)
  d__law_one_of := c.def_ 13 (d := D__law_one_of) rfl
  g__law_lot := He.glo_ok X N (c.fact 32 (f := .glo "_law_lot") rfl)
  d__law_lot := c.def_ 14 (d := D__law_lot) rfl
  g_lot_of := He.glo_ok X N (c.fact 33 (f := .glo "lot_of") rfl)
  d_lot_of := c.def_ 15 (d := D_lot_of) rfl
  g_together := He.glo_ok X N (c.fact 34 (f := .glo "together") rfl)
  d_together := c.def_ 16 (d := D_together) rfl
  g_common := He.glo_ok X N (c.fact 35 (f := .glo "common") rfl)
  d_common := c.def_ 17 (d := D_common) rfl
  g__law_word := He.glo_ok X N (c.fact 36 (f := .glo "_law_word") rfl)
  d__law_word := c.def_ 18 (d := D__law_word) rfl
  g__law_right := He.glo_ok X N (c.fact 37 (f := .glo "_law_right") rfl)
  d__law_right := c.def_ 19 (d := D__law_right) rfl
  d_law := c.def_ 20 (d := D_law) rfl
end Lk01
open PySem PySem.W PySem.Calls PyProof.Rows
theorem PySem.Challenge.cw_whomet_k01_whole_two_lots_holds : PySem.Challenge.rw_whomet_k01_whole_two_lots.Holds := by
  w_on; o_law
  refine HandSHeadRun.head_any (r := OpenLaw.row PySem.Challenge.rw_whomet_k01_whole_two_lots) (q := view (OpenLaw.row PySem.Challenge.rw_whomet_k01_whole_two_lots).prog [28]) (H := Lk01.hk) (ob := Lk01.ob) (M := 3000) (loose := Lk01.nms) (d := HandSHeadRun.topDef (OpenLaw.row PySem.Challenge.rw_whomet_k01_whole_two_lots).prog 28) (kwd := []) Lk01.ob_eq
    (by kernel_rfl) (fun s => by kernel_rfl) Lk01.run (by kernel_rfl) (by kernel_rfl) (by kernel_rfl) (by rfl) (by first | assumption | decide +kernel) (by decide +kernel) ⟨rfl, rfl, rfl, rfl, rfl, by decide +kernel⟩ ?hw ?hc
  case hw => w_witness2
  case hc =>
    refine Dv.walk_D (l := PySem.Challenge.rw_whomet_k01_whole_two_lots) (n := 63) (k := 9) (m := Lk01.d_law) rfl (by decide) (by kernel_rfl) ⟨rfl, by decide, by decide⟩ Lk01.law_true ?F
    intro w mg fa h Y G hmg0
    obtain ⟨K, KX, c⟩ := Y
    have hmg : mg ("law" : PySem.Str) = some (.ref fa) := by
      have e : (HandSHeadRun.topDef (OpenLaw.row PySem.Challenge.rw_whomet_k01_whole_two_lots).prog 28).name = ("law" : PySem.Str) := by kernel_rfl
      rw [← e]
      exact hmg0
    refine ⟨K, fun _ => 0, KX, fun base hb hn => ?_⟩
    have e := hmg.symm.trans (He.glo_ok KX G (c.fact 38 (f := .glo "law") rfl))
    cases e
    exact Lk01.F_law (Lk01.mg_of (G := ⟨_, w, K, mg, base, fun _ => 0⟩) KX G c)
