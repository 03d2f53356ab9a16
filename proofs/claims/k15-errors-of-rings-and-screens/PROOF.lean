import PyProof.Rows.All
import Wide.All
import OpenK.AllK
import Wide.FinOn
import HandS.ForMost
import HandS.ForExc
import HandS.Lambda
import HandS.Slots
import HandS.HeadHook4
import HandS.TupAny
import HandS.Style
import HandS.Wide
import HandS.IsInst
import HandS.Conv
import HandS.Deep
import HandS.Flow
import HandS.Zip
import HandS.Defaults
import HandS.Dict
import PyProof.P3In
import PyProof.ReprRoads
import HandS.SetFor
import HandS.TupSets
import HandS.SortInts
import HandS.Ends
import HandS.HeadHook2
import KE.SortData
import KE.DataMinMax
import KE.GoesMore
import PyProof.CallFns
import KE.KExcSuper
import KE.KExcInit
import HandS.TryMany
import HandS.ExcField
import HandS.SlotsOwn
import HandS.EndTab
import HandS.TupMul
import KE.KNestM
import PyProof.ReprLen
import HandS.Star
import HandS.NoneIn
import KE.SortKeyHeap
import KE.SortUse
import HandS.Iter
import PySem.Challenge.RW_whomet_k15_errors_of_rings_and_screens
import KE.KStateDown
import HandS.Head0
import HandS.Head1
import HandS.Head2
import HandS.HeadHook1
set_option Elab.async false
set_option linter.all false
set_option maxRecDepth 100000
set_option maxHeartbeats 4000000
set_option maxHeartbeats 4000000
/-! A layer of plain data over the hand layer: what an expression is worth as a function of data. -/
namespace Dv
open PySem PySem.Spec PyProof.Rows L2

/-- plain data: f tells that a list is fresh (nobody else holds it) -/
inductive D where
  | non
  | bl (b : Bool)
  | int (i : Int)
  | str (s : Str)
  | ty (n : String)
  | adr (a : Addr)
  | loc (n : Nat)
  | tup (xs : List D)
  | lst (f : Bool) (xs : List D)
  | rol (xs : List D)
  | dct (f : Bool) (kvs : List (D × D))
  | obj (c : Nat) (fs : List D)
  | err (c : Nat) (fs : List D)
  | tab (q : Str)
  deriving Inhabited

abbrev Store := List (Option D)
abbrev Rho := List (Option D)

inductive Res (α : Type) where
  | ok (a : α) (S : Store)
  | exc (c : Nat) (fs : List D) (S : Store)
  | bad

/-! ### how data stands in the heap -/
abbrev Ow := Addr → Prop

/-- a list that is read alone: locked, or of the written part -/
def Ro (K : PySem.W.Frag) (H : Hp) (a : Addr) (xs : List V) : Prop :=
  (∃ o, H a = some (.frz o (.lst xs))) ∨
    ∃ (o : Obj) (its : Array Value) (n : Nat), K.lookup a = some o ∧ o.cls = .type "list" ∧ o.dict = none ∧ o.data = .seq its n ∧ its.size ≤ sizeLine ∧ Vals xs its.toList
theorem Ro.seq {K : PySem.W.Frag} {H : Hp} {a : Addr} {xs : List V} (h : Ro K H a xs) : SqL K H a xs := by
  rcases h with h | h
  · exact .inl (.inr h)
  · exact .inr h

/-- the classes of the program whose instances are data -/
def clsN : Nat → Str
  | 0 => "Table"
  | 1 => "Hall"
  | _ => "Shell"
/-- an instance with slots, all of them known -/
def ObjAt (K : PySem.W.Frag) (H : Hp) (a : Addr) (c : Nat) (vs : List V) : Prop := ∃ dx, H a = some (SlX.SlO a (He.ga K (clsN c)) dx (vs.map some)) ∧ H dx = some (.xd [])
/-- a dict's key as data -/
def keyD : Key → D
  | .inl i => .int i
  | .inr x => .str x
mutual
inductive Rp (K : PySem.W.Frag) (H : Hp) (O : Ow) : V → D → Prop
  | non : Rp K H O .non .non
  | bl (b : Bool) : Rp K H O (.bl b) (.bl b)
  | int (i : Int) : Rp K H O (.int i) (.int i)
  | str (x : Str) : Rp K H O (.str x) (.str x)
  | ty (n : String) : Rp K H O (.ty n) (.ty n)
  | adr (a : Addr) : Rp K H O (.ref a) (.adr a)
  | tup {a : Addr} {xs : List V} {ds : List D} : SqT K H a xs → RpAll K H O xs ds → Rp K H O (.ref a) (.tup ds)
  | lst {a : Addr} {xs : List V} {ds : List D} {f : Bool} : ¬ O a → H a = some (.lst xs) → RpAll K H O xs ds → Rp K H O (.ref a) (.lst f ds)
  | rol {a : Addr} {xs : List V} {ds : List D} : Ro K H a xs → RpAll K H O xs ds → Rp K H O (.ref a) (.rol ds)
  | dct {a : Addr} {kvs : List (Key × V)} {ds : List (D × D)} {f : Bool} : ¬ O a → H a = some (.dK kvs) → RpKV K H O kvs ds → Rp K H O (.ref a) (.dct f ds)
  | obj {a : Addr} {c : Nat} {vs : List V} {ds : List D} : ObjAt K H a c vs → RpAll K H O vs ds → Rp K H O (.ref a) (.obj c ds)
inductive RpAll (K : PySem.W.Frag) (H : Hp) (O : Ow) : List V → List D → Prop
  | nil : RpAll K H O [] []
  | cons {v : V} {d : D} {vs : List V} {ds : List D} : Rp K H O v d → RpAll K H O vs ds → RpAll K H O (v :: vs) (d :: ds)
inductive RpKV (K : PySem.W.Frag) (H : Hp) (O : Ow) : List (Key × V) → List (D × D) → Prop
  | nil : RpKV K H O [] []
  | cons {k : Key} {v : V} {d : D} {vs : List (Key × V)} {ds : List (D × D)} : Rp K H O v d → RpKV K H O vs ds → RpKV K H O ((k, v) :: vs) ((keyD k, d) :: ds)
end

/-- what an owned address may hold -/
def isMu : HO → Bool
  | .lst _ => true
  | .dK _ => true
  | .dT _ => true
  | .set _ _ => true
  | .tbl _ => true
  | .ins _ _ _ => true
  | .own _ => true
  | _ => false

/-- all that is not owned is as it was -/
def Ext (O : Ow) (H H' : Hp) : Prop := ∀ a o, H a = some o → ¬ O a → H' a = some o
/-- new owners were free -/
def Grow (H : Hp) (O O' : Ow) : Prop := ∀ a, O' a → O a ∨ H a = none
def Owns (H : Hp) (O : Ow) : Prop := ∀ a, O a → ∃ o, H a = some o ∧ isMu o = true

theorem Ext.refl (O : Ow) (H : Hp) : Ext O H H := fun _ _ h _ => h
theorem Ext.of_same {O : Ow} {H H' : Hp} (h : Same H H') : Ext O H H' := fun a o e _ => h a o e
theorem Grow.refl (H : Hp) (O : Ow) : Grow H O O := fun _ h => .inl h
theorem Owns.no {H H' : Hp} {O : Ow} (ow : Owns H O) (e : Ext O H H') {a : Addr} {o : HO} (q : H a = some o) (m : isMu o = false) : H' a = some o := e a o q fun z => by
  obtain ⟨o', q', m'⟩ := ow a z
  rw [q] at q'; cases q'
  rw [m] at m'; cases m'

theorem SqT.ext {K : PySem.W.Frag} {H H' : Hp} {O : Ow} {a : Addr} {xs : List V} (ow : Owns H O) (e : Ext O H H') (h : SqT K H a xs) : SqT K H' a xs := by
  rcases h with (h | ⟨o, h⟩) | h
  · exact .inl (.inl (ow.no e h rfl))
  · exact .inl (.inr ⟨o, ow.no e h rfl⟩)
  · exact .inr h
theorem Ro.ext {K : PySem.W.Frag} {H H' : Hp} {O : Ow} {a : Addr} {xs : List V} (ow : Owns H O) (e : Ext O H H') (h : Ro K H a xs) : Ro K H' a xs := by
  rcases h with ⟨o, h⟩ | h
  · exact .inl ⟨o, ow.no e h rfl⟩
  · exact .inr h

theorem ObjAt.ext {K : PySem.W.Frag} {H H' : Hp} {O : Ow} {a : Addr} {c : Nat} {vs : List V} (ow : Owns H O) (e : Ext O H H') (h : ObjAt K H a c vs) : ObjAt K H' a c vs :=
  let ⟨dx, h1, h2⟩ := h
  ⟨dx, ow.no e h1 rfl, ow.no e h2 rfl⟩
section
variable {K : PySem.W.Frag} {H H' : Hp} {O O' : Ow}
mutual
theorem Rp.ext (ow : Owns H O) (e : Ext O H H') (g : Grow H O O') : ∀ {v : V} {d : D}, Rp K H O v d → Rp K H' O' v d
  | _, _, .non => .non
  | _, _, .bl b => .bl b
  | _, _, .int i => .int i
  | _, _, .str x => .str x
  | _, _, .ty n => .ty n
  | _, _, .adr a => .adr a
  | _, _, .tup h r => .tup (SqT.ext ow e h) (RpAll.ext ow e g r)
  | _, _, .lst n h r => .lst (fun z => (g _ z).elim n fun q => by rw [h] at q; cases q) (e _ _ h n) (RpAll.ext ow e g r)
  | _, _, .obj h r => .obj (h.ext ow e) (RpAll.ext ow e g r)
  | _, _, .rol h r => .rol (h.ext ow e) (RpAll.ext ow e g r)
  | _, _, .dct n h r => .dct (fun z => (g _ z).elim n fun q => by rw [h] at q; cases q) (e _ _ h n) (RpKV.ext ow e g r)
theorem RpAll.ext (ow : Owns H O) (e : Ext O H H') (g : Grow H O O') : ∀ {vs : List V} {ds : List D}, RpAll K H O vs ds → RpAll K H' O' vs ds
  | _, _, .nil => .nil
  | _, _, .cons h r => .cons (Rp.ext ow e g h) (RpAll.ext ow e g r)
theorem RpKV.ext (ow : Owns H O) (e : Ext O H H') (g : Grow H O O') : ∀ {vs : List (Key × V)} {ds : List (D × D)}, RpKV K H O vs ds → RpKV K H' O' vs ds
  | _, _, .nil => .nil
  | _, _, .cons h r => .cons (Rp.ext ow e g h) (RpKV.ext ow e g r)
end
theorem RpAll.length : ∀ {vs : List V} {ds : List D}, RpAll K H O vs ds → vs.length = ds.length
  | _, _, .nil => rfl
  | _, _, .cons _ r => by simp [RpAll.length r]
theorem RpAll.get : ∀ {vs : List V} {ds : List D} {i : Nat} {d : D}, RpAll K H O vs ds → ds[i]? = some d → ∃ v, vs[i]? = some v ∧ Rp K H O v d
  | _, _, _, _, .nil, e => by simp at e
  | _, _, 0, _, .cons r _, e => by simp at e; subst e; exact ⟨_, rfl, r⟩
  | _, _, i + 1, d, .cons _ t, e => by
    obtain ⟨u, h1, h2⟩ := RpAll.get (i := i) (d := d) t (by simpa using e)
    exact ⟨u, by simpa using h1, h2⟩
theorem RpAll.append : ∀ {vs ws : List V} {ds es : List D}, RpAll K H O vs ds → RpAll K H O ws es → RpAll K H O (vs ++ ws) (ds ++ es)
  | _, _, _, _, .nil, s => s
  | _, _, _, _, .cons r t, s => .cons r (RpAll.append t s)
theorem RpAll.take : ∀ {vs : List V} {ds : List D} (n : Nat), RpAll K H O vs ds → RpAll K H O (vs.take n) (ds.take n)
  | _, _, 0, _ => .nil
  | _, _, _ + 1, .nil => .nil
  | _, _, n + 1, .cons r t => .cons r (RpAll.take n t)
theorem RpAll.drop : ∀ {vs : List V} {ds : List D} (n : Nat), RpAll K H O vs ds → RpAll K H O (vs.drop n) (ds.drop n)
  | _, _, 0, r => r
  | _, _, _ + 1, .nil => .nil
  | _, _, n + 1, .cons _ t => RpAll.drop n t
theorem RpAll.set {v : V} {d : D} (r : Rp K H O v d) : ∀ {vs : List V} {ds : List D} (i : Nat), RpAll K H O vs ds → RpAll K H O (vs.set i v) (ds.set i d)
  | _, _, _, .nil => .nil
  | _, _, 0, .cons _ t => .cons r t
  | _, _, i + 1, .cons q t => .cons q (RpAll.set r i t)
theorem RpAll.eraseIdx : ∀ {vs : List V} {ds : List D} (i : Nat), RpAll K H O vs ds → RpAll K H O (vs.eraseIdx i) (ds.eraseIdx i)
  | _, _, _, .nil => .nil
  | _, _, 0, .cons _ t => t
  | _, _, i + 1, .cons q t => .cons q (RpAll.eraseIdx i t)
theorem RpAll.reverse {vs : List V} {ds : List D} (h : RpAll K H O vs ds) : RpAll K H O vs.reverse ds.reverse := by
  induction vs generalizing ds with
  | nil => cases h; exact .nil
  | cons v vs ih =>
    cases h with
    | cons r t =>
      rw [List.reverse_cons, List.reverse_cons]
      exact (ih t).append (.cons r .nil)
theorem RpAll.ints : ∀ {ns : List Int} {vs : List V}, RpAll K H O vs (ns.map D.int) → vs = ns.map V.int
  | [], _, h => by cases h; rfl
  | n :: ns, _, h => by
    cases h with
    | cons r t => cases r; rw [RpAll.ints t]; rfl
theorem RpAll.bls : ∀ {ns : List Bool} {vs : List V}, RpAll K H O vs (ns.map D.bl) → vs = ns.map V.bl
  | [], _, h => by cases h; rfl
  | n :: ns, _, h => by
    cases h with
    | cons r t => cases r; rw [RpAll.bls t]; rfl
theorem rpAll_ints : ∀ ns : List Int, RpAll K H O (ns.map V.int) (ns.map D.int)
  | [] => .nil
  | n :: ns => .cons (.int n) (rpAll_ints ns)
end

/-! ### the store -/
/-- where the cells stand; ph: lists that are being made, which nobody knows -/
structure Wy where
  loc : Nat → Addr
  ph : Ow
def OwC (A : Wy) (S : Store) : Ow := fun a => ∃ n d, S[n]? = some (some d) ∧ A.loc n = a
def Own (A : Wy) (S : Store) : Ow := fun a => OwC A S a ∨ A.ph a
theorem Ext.own {A : Wy} {S : Store} {H H' : Hp} (e : Ext (OwC A S) H H') : Ext (Own A S) H H' := fun a o h n => e a o h fun z => n (.inl z)
/-- the table of the code object of the module's def x; the name of the code objects in it -/
def tA (K : PySem.W.Frag) (x : Str) : Addr := He.tabOf K (He.codeOf K (x, none))
def tQ (x : Str) : Str := (x ++ ".<locals>.") ++ "<lambda>"
/-- what a cell holds -/
inductive Cell (K : PySem.W.Frag) (H : Hp) (O : Ow) : Addr → D → Prop
  | lst {a : Addr} {f : Bool} {xs : List V} {ds : List D} : H a = some (.lst xs) → RpAll K H O xs ds → Cell K H O a (.lst f ds)
  | dct {a : Addr} {f : Bool} {kvs : List (Key × V)} {ds : List (D × D)} : H a = some (.dK kvs) → RpKV K H O kvs ds → Cell K H O a (.dct f ds)
  | tab {a : Addr} {x : Str} : a = tA K x → LamX.TabS H a (tQ x) → Cell K H O a (.tab x)
structure Cells (K : PySem.W.Frag) (A : Wy) (S : Store) (H : Hp) : Prop where
  at_ : ∀ n d, S[n]? = some (some d) → Cell K H (Own A S) (A.loc n) d
  inj : ∀ n m d e, S[n]? = some (some d) → S[m]? = some (some e) → A.loc n = A.loc m → n = m
  phs : ∀ a, A.ph a → ∃ o, H a = some o ∧ isMu o = true
  apart : ∀ a, A.ph a → ¬ OwC A S a
theorem Cell.mu {K : PySem.W.Frag} {H : Hp} {O : Ow} {a : Addr} {d : D} (c : Cell K H O a d) : ∃ o, H a = some o ∧ isMu o = true := by
  cases c with
  | lst h _ => exact ⟨_, h, rfl⟩
  | dct h _ => exact ⟨_, h, rfl⟩
  | tab _ h => obtain ⟨ps, h, _⟩ := h; exact ⟨_, h, rfl⟩
theorem Cells.owns {K : PySem.W.Frag} {A : Wy} {S : Store} {H : Hp} (c : Cells K A S H) : Owns H (Own A S) := by
  rintro a (⟨n, d, h, rfl⟩ | h)
  · exact (c.at_ n d h).mu
  · exact c.phs a h

/-- the field of an error's class -/
def cfn : Nat → Str
  | 9 => "spot"
  | 10 => "given"
  | 11 => "wanted"
  | 12 => "done"
  | 13 => "limit"
  | 14 => "reason"
  | _ => ""
/-- what an error of the class number c keeps, by its own dict -/
def ExAt (K : PySem.W.Frag) (H : Hp) (O : Ow) (c : Nat) (dd : Option Addr) (fs : List D) : Prop :=
  fs = [] ∨ ∃ x v f, fs = [f] ∧ dd = some x ∧ H x = some (.xd [(cfn c, v)]) ∧ Rp K H O v f
abbrev ZT := V → Nat → Option Addr → Prop
/-- a value of a slot, of an expression -/
def RpS (K : PySem.W.Frag) (Z : ZT) (A : Wy) (S : Store) (H : Hp) (v : V) (d : D) : Prop :=
  (∃ n e, d = .loc n ∧ v = .ref (A.loc n) ∧ S[n]? = some (some e)) ∨ Rp K H (Own A S) v d ∨ ∃ c fs dd, d = .err c fs ∧ Z v c dd ∧ ExAt K H (Own A S) c dd fs

/-- the same cells live -/
def Lives (S S' : Store) : Prop := ∀ n : Nat, (S'[n]?.join).isSome = (S[n]?.join).isSome
theorem Lives.refl (S : Store) : Lives S S := fun _ => rfl
theorem Lives.trans {S S1 S2 : Store} (a : Lives S S1) (b : Lives S1 S2) : Lives S S2 := fun n => (b n).trans (a n)
theorem live_iff {S : Store} {n : Nat} : (S[n]?.join).isSome = true ↔ ∃ d, S[n]? = some (some d) := by
  cases h : S[n]? with
  | none => simp
  | some x => cases x <;> simp
theorem Lives.ownC {S S' : Store} (l : Lives S S') (A : Wy) : OwC A S' = OwC A S := by
  funext a
  refine propext ⟨?_, ?_⟩
  · rintro ⟨n, d, h, e⟩
    have := live_iff.mp ((l n) ▸ live_iff.mpr ⟨d, h⟩)
    obtain ⟨d', h'⟩ := this
    exact ⟨n, d', h', e⟩
  · rintro ⟨n, d, h, e⟩
    have := live_iff.mp ((l n).symm ▸ live_iff.mpr ⟨d, h⟩)
    obtain ⟨d', h'⟩ := this
    exact ⟨n, d', h', e⟩
theorem Lives.own {S S' : Store} (l : Lives S S') (A : Wy) : Own A S' = Own A S := by
  unfold Own
  rw [l.ownC A]
theorem Lives.get {S S' : Store} (l : Lives S S') {n : Nat} {d : D} (h : S[n]? = some (some d)) : ∃ d', S'[n]? = some (some d') :=
  live_iff.mp ((l n).symm ▸ live_iff.mpr ⟨d, h⟩)

/-- behind an expression -/
structure Pst (K : PySem.W.Frag) (A : Wy) (S : Store) (H : Hp) (S' : Store) (H' : Hp) : Prop where
  ext : Ext (OwC A S) H H'
  lives : Lives S S'
  len : S'.length = S.length
  cells : Cells K A S' H'

section
variable {K : PySem.W.Frag} {Z : ZT} {A : Wy} {S S1 S2 : Store} {H H1 H2 : Hp}
theorem ExAt.ext {O O' : Ow} {H H' : Hp} {c : Nat} {dd : Option Addr} {fs : List D} (ow : Owns H O) (e : Ext O H H') (g : Grow H O O') (h : ExAt K H O c dd fs) : ExAt K H' O' c dd fs := by
  rcases h with h | ⟨x, v, f, h1, h2, h3, h4⟩
  · exact .inl h
  · exact .inr ⟨x, v, f, h1, h2, ow.no e h3 rfl, h4.ext ow e g⟩
theorem Pst.refl (c : Cells K A S H) : Pst K A S H S H := ⟨.refl _ _, .refl _, rfl, c⟩
theorem Pst.trans (a : Pst K A S H S1 H1) (b : Pst K A S1 H1 S2 H2) : Pst K A S H S2 H2 :=
  ⟨fun x o h n => b.ext x o (a.ext x o h n) (by rw [a.lives.ownC A]; exact n), a.lives.trans b.lives, b.len.trans a.len, b.cells⟩
theorem Pst.own (a : Pst K A S H S1 H1) : Own A S1 = Own A S := a.lives.own A
/-- an older value stands -/
theorem Rp.step {v : V} {d : D} (c : Cells K A S H) (p : Pst K A S H S1 H1) (h : Rp K H (Own A S) v d) : Rp K H1 (Own A S1) v d := by
  rw [p.own]
  exact h.ext c.owns p.ext.own (.refl _ _)
theorem RpAll.step {vs : List V} {ds : List D} (c : Cells K A S H) (p : Pst K A S H S1 H1) (h : RpAll K H (Own A S) vs ds) : RpAll K H1 (Own A S1) vs ds := by
  rw [p.own]
  exact h.ext c.owns p.ext.own (.refl _ _)
theorem ExAt.step {c : Nat} {dd : Option Addr} {fs : List D} (c0 : Cells K A S H) (p : Pst K A S H S1 H1) (h : ExAt K H (Own A S) c dd fs) : ExAt K H1 (Own A S1) c dd fs := by
  rw [p.own]
  exact h.ext c0.owns p.ext.own (.refl _ _)
theorem RpS.step {v : V} {d : D} (c : Cells K A S H) (p : Pst K A S H S1 H1) (h : RpS K Z A S H v d) : RpS K Z A S1 H1 v d := by
  rcases h with ⟨n, e, h1, h2, h3⟩ | h | ⟨k, fs, dd, h1, h2, h3⟩
  · obtain ⟨e', h'⟩ := p.lives.get h3
    exact .inl ⟨n, e', h1, h2, h'⟩
  · exact .inr (.inl (h.step c p))
  · exact .inr (.inr ⟨k, fs, dd, h1, h2, h3.step c p⟩)
theorem RpS.rp {v : V} {d : D} (h : RpS K Z A S H v d) (n1 : ∀ n, d ≠ .loc n) (n2 : ∀ c fs, d ≠ .err c fs) : Rp K H (Own A S) v d := by
  rcases h with ⟨n, e, h1, _⟩ | h | ⟨k, fs, dd, h1, _⟩
  · exact absurd h1 (n1 n)
  · exact h
  · exact absurd h1 (n2 k fs)
/-- objects were made alone -/
theorem Cell.ext {O O' : Ow} {H H' : Hp} {a : Addr} {d : D} (ow : Owns H O) (e : Ext O H H') (g : Grow H O O') (k : ∀ o, H a = some o → H' a = some o) (c : Cell K H O a d) : Cell K H' O' a d := by
  cases c with
  | lst h r => exact .lst (k _ h) (r.ext ow e g)
  | dct h r => exact .dct (k _ h) (r.ext ow e g)
  | tab h0 h =>
    obtain ⟨ps, h1, h2, h3⟩ := h
    refine .tab h0 ⟨ps, k _ h1, h2, fun pos cv hc => ?_⟩
    obtain ⟨x, e1, e2⟩ := h3 pos cv hc
    exact ⟨x, e1, ow.no e e2 rfl⟩
theorem Pst.of_same (c : Cells K A S H) (h : Same H H1) : Pst K A S H S H1 :=
  ⟨.of_same h, .refl _, rfl, ⟨fun n d e => (c.at_ n d e).ext c.owns (.of_same h) (.refl _ _) fun o q => h _ o q, c.inj, fun a z => let ⟨o, q, m⟩ := c.phs a z; ⟨o, h a o q, m⟩, c.apart⟩⟩
end

/-- fresh data: its address was free, and nobody holds it -/
def isNew : D → Bool
  | .lst true _ => true
  | .dct true _ => true
  | _ => false
def Fresh (K : PySem.W.Frag) (A : Wy) (S : Store) (H H' : Hp) (v : V) (d : D) : Prop :=
  isNew d = true → ∃ a, v = .ref a ∧ H a = none ∧ Cell K H' (fun x => Own A S x ∨ x = a) a d ∧ ∀ (n : Nat) (e : D), S[n]? = some (some e) → Cell K H' (fun x => Own A S x ∨ x = a) (A.loc n) e
theorem Fresh.old {K : PySem.W.Frag} {A : Wy} {S : Store} {H H' : Hp} {v : V} {d : D} (h : isNew d = false) : Fresh K A S H H' v d := fun z => by rw [h] at z; cases z
theorem Fresh.mk {K : PySem.W.Frag} {A : Wy} {S : Store} {H H' : Hp} {a : Addr} {d : D} (c : Cells K A S H) (sm : Same H H') (h : H a = none) (ce : Cell K H' (fun x => Own A S x ∨ x = a) a d) : Fresh K A S H H' (.ref a) d := fun _ =>
  ⟨a, rfl, h, ce, fun n e q => (c.at_ n e q).ext c.owns (.of_same sm) (fun x z => z.imp id fun z => by rw [z]; exact h) fun o q => sm _ o q⟩
theorem Grow.one {H : Hp} {O : Ow} {a : Addr} (h : H a = none) : Grow H O (fun x => O x ∨ x = a) := fun x z => z.imp id fun z => by rw [z]; exact h
theorem Fresh.later {K : PySem.W.Frag} {A : Wy} {S : Store} {H0 H H' : Hp} {v : V} {d : D} (fr : ∀ a, H a = none → H0 a = none) (f : Fresh K A S H H' v d) : Fresh K A S H0 H' v d := fun z =>
  let ⟨a, e, n, k⟩ := f z
  ⟨a, e, fr a n, k⟩
end Dv

set_option maxHeartbeats 4000000
namespace Dv
open PySem PySem.Spec PyProof.Rows L2
set_option autoImplicit false

abbrev St := L2.St
/-- where one stands -/
structure Sit where
  X : Cx
  base : Nat
  W : WX
  Z : ZT
  cad : Nat → Addr

/-- the slots and the store, as they stand -/
structure Cn (s : Sit) (ρ : Rho) (S : Store) (A : Wy) (σ : St) (H : Hp) : Prop where
  slot : ∀ (i : Nat) (d : D), ρ[i]? = some (some d) → ∃ v, σ[i]? = some (some v) ∧ RpS s.X.K s.Z A S H v d
  cells : Cells s.X.K A S H
  disc : ∀ (i n : Nat), ρ[i]? = some (some (.loc n)) → n < s.base ∨ n = s.base + i
  len : σ.length = ρ.length
  room : s.base + ρ.length ≤ S.length

def EOut (s : Sit) (A : Wy) (S : Store) (H : Hp) (σ : St) (Q : VK) : Res D → Prop
  | .ok d S' => ∀ v H', Pst s.X.K A S H S' H' → RpS s.X.K s.Z A S' H' v d → Fresh s.X.K A S' H H' v d → Q v H'
  | .exc c fs S' => ∀ dd H', Pst s.X.K A S H S' H' → ExAt s.X.K H' (Own A S') c dd fs → s.W (.ref (s.cad c)) dd σ H'
  | .bad => False
abbrev ME := Rho → Store → Res D
def tD (s : Sit) (m : ME) : TE := fun σ H Q => ∃ ρ S A, Cn s ρ S A σ H ∧ EOut s A S H σ Q (m ρ S)
/-- THE JUDGEMENT: e is worth m -/
def SE (s : Sit) (e : Expr) (m : ME) : Prop := PE s.X e (tD s m)

section
variable {s : Sit} {ρ : Rho} {S S1 : Store} {A : Wy} {σ : St} {H H1 : Hp}
theorem Cn.step (c : Cn s ρ S A σ H) (p : Pst s.X.K A S H S1 H1) : Cn s ρ S1 A σ H1 :=
  ⟨fun i d h => let ⟨v, h1, h2⟩ := c.slot i d h; ⟨v, h1, h2.step c.cells p⟩, p.cells, c.disc, c.len, by rw [p.len]; exact c.room⟩

theorem PE.weak {X : Cx} {e : Expr} {t t' : TE} (h : PE X e t) (w : ∀ σ H Q, t' σ H Q → t σ H Q) : PE X e t' := ⟨fun pins s σ H Q I q => h.run pins s σ H Q I (w _ _ _ q)⟩

/-! ### one after the other -/
/-- go on -/
def Res.bind {α β : Type} (r : Res α) (k : α → Store → Res β) : Res β := match r with
  | .ok a S => k a S
  | .exc c fs S => .exc c fs S
  | .bad => .bad
@[simp] theorem bind_ok {α β : Type} (a : α) (S : Store) (k : α → Store → Res β) : (Res.ok a S).bind k = k a S := rfl
@[simp] theorem bind_exc {α β : Type} (c : Nat) (fs : List D) (S : Store) (k : α → Store → Res β) : (Res.exc c fs S : Res α).bind k = .exc c fs S := rfl
@[simp] theorem bind_bad {α β : Type} (k : α → Store → Res β) : (Res.bad : Res α).bind k = .bad := rfl

/-- an expression's part: from what is wanted of the whole -/
theorem tD_bind {m : ME} {k : D → Store → Res D} {Q : VK} {Q' : VK} (c : Cn s ρ S A σ H) (h : EOut s A S H σ Q ((m ρ S).bind k))
    (go : ∀ d S1 v H1, m ρ S = .ok d S1 → Pst s.X.K A S H S1 H1 → Cn s ρ S1 A σ H1 → RpS s.X.K s.Z A S1 H1 v d → Fresh s.X.K A S1 H H1 v d →
      EOut s A S H σ Q (k d S1) → Q' v H1) : tD s m σ H Q' := by
  refine ⟨ρ, S, A, c, ?_⟩
  cases e : m ρ S with
  | ok d S1 =>
    intro v H1 p r f
    rw [e] at h
    exact go d S1 v H1 e p (c.step p) r f h
  | exc x fs S1 =>
    intro dd H1 p q
    rw [e] at h
    exact h dd H1 p q
  | bad =>
    rw [e] at h
    exact h
/-- what is wanted, from a later place -/
theorem EOut.later {Q : VK} {r : Res D} (p : Pst s.X.K A S H S1 H1) (fr : ∀ a, H1 a = none → H a = none) (h : EOut s A S H σ Q r) : EOut s A S1 H1 σ Q r := by
  cases r with
  | ok d S2 =>
    intro v H2 p2 r2 f2
    exact h v H2 (p.trans p2) r2 (f2.later fr)
  | exc x fs S2 =>
    intro dd H2 p2 q
    exact h dd H2 (p.trans p2) q
  | bad => exact h
/-- nothing is let go by an expression -/
theorem Pst.free {K : PySem.W.Frag} (c : Cells K A S H) (p : Pst K A S H S1 H1) : ∀ a, H1 a = none → H a = none := fun a n => by
  cases e : H a with
  | none => rfl
  | some o =>
    by_cases z : OwC A S a
    · rw [← p.lives.ownC A] at z
      obtain ⟨o', q, _⟩ := p.cells.owns a (.inl z)
      rw [n] at q; cases q
    · rw [p.ext a o e z] at n; cases n
theorem EOut.on {Q : VK} {r : Res D} (c : Cells s.X.K A S H) (p : Pst s.X.K A S H S1 H1) (h : EOut s A S H σ Q r) : EOut s A S1 H1 σ Q r := h.later p (p.free c)
end

/-! ### names, constants -/
section
variable {s : Sit}
def mVar (i : Nat) : ME := fun ρ S => match ρ[i]? with
  | some (some d) => if isNew d then .bad else .ok d S
  | _ => .bad
def mK (d : D) : ME := fun _ S => .ok d S
theorem se_var {e : Expr} {i : Nat} (h : PE s.X e (tVar i)) : SE s e (mVar i) := by
  refine PE.weak h fun σ H Q q => ?_
  obtain ⟨ρ, S, A, c, q⟩ := q
  unfold mVar at q
  split at q
  · rename_i d hd
    obtain ⟨v, h1, h2⟩ := c.slot i d hd
    split at q
    · exact q.elim
    · rename_i hn
      exact ⟨v, h1, q v H (.refl c.cells) h2 (.old (by simpa using hn))⟩
  · exact q.elim
theorem se_k {e : Expr} {v : V} {d : D} (h : PE s.X e (tC v)) (r : ∀ H O, Rp s.X.K H O v d) (n : isNew d = false) : SE s e (mK d) := by
  refine PE.weak h fun σ H Q q => ?_
  obtain ⟨ρ, S, A, c, q⟩ := q
  exact q v H (.refl c.cells) (.inr (.inl (r _ _))) (.old n)
theorem se_int {i j pos} : SE s (.Constant (.int i) j pos) (mK (.int i)) := se_k pe_int (fun _ _ => .int i) rfl
theorem se_bl {b j pos} : SE s (.Constant (.bool b) j pos) (mK (.bl b)) := se_k pe_bl (fun _ _ => .bl b) rfl
theorem se_non {j pos} : SE s (.Constant .none j pos) (mK .non) := se_k pe_non (fun _ _ => .non) rfl
theorem se_str {x j pos} : SE s (.Constant (.str x) j pos) (mK (.str x)) := se_k pe_str (fun _ _ => .str x) rfl
/-- a module's constant -/
theorem se_glob {x : Str} {u : Value} {v : V} {d : D} {pos : Pos} (hg : Gl s.X x) (hm : s.X.mg x = some u) (r : RelV v u) (rd : ∀ H O, Rp s.X.K H O v d) (n : isNew d = false) (hd : (x == ("__debug__" : Str)) = false := by decide) : SE s (.Name x pos) (mK d) :=
  se_k (pe_glob hg hm r hd) rd n
end

/-! ### operations by values -/
/-- what is asked of an operation's rule: f tells its data -/
def OpSem (s : Sit) (f : Store → D → D → Option D) (r : R2) : Prop :=
  ∀ (A : Wy) (S : Store) (H : Hp) (v w : V) (d e x : D) (Q : VK), Cells s.X.K A S H → RpS s.X.K s.Z A S H v d → RpS s.X.K s.Z A S H w e → f S d e = some x →
    (∀ z H', Same H H' → RpS s.X.K s.Z A S H' z x → Fresh s.X.K A S H H' z x → Q z H') → r v w H Q
def UnSem (s : Sit) (f : Store → D → Option D) (r : V → Hp → VK → Prop) : Prop :=
  ∀ (A : Wy) (S : Store) (H : Hp) (v : V) (d x : D) (Q : VK), Cells s.X.K A S H → RpS s.X.K s.Z A S H v d → f S d = some x →
    (∀ z H', Same H H' → RpS s.X.K s.Z A S H' z x → Fresh s.X.K A S H H' z x → Q z H') → r v H Q
inductive RpL (K : PySem.W.Frag) (Z : ZT) (A : Wy) (S : Store) (H : Hp) : List V → List D → Prop
  | nil : RpL K Z A S H [] []
  | cons {v : V} {d : D} {vs : List V} {ds : List D} : RpS K Z A S H v d → RpL K Z A S H vs ds → RpL K Z A S H (v :: vs) (d :: ds)
def CallSem (s : Sit) (f : Store → List D → Option D) (r : List V → Hp → VK → Prop) : Prop :=
  ∀ (A : Wy) (S : Store) (H : Hp) (vs : List V) (ds : List D) (x : D) (Q : VK), Cells s.X.K A S H → RpL s.X.K s.Z A S H vs ds → f S ds = some x →
    (∀ z H', Same H H' → RpS s.X.K s.Z A S H' z x → Fresh s.X.K A S H H' z x → Q z H') → r vs H Q
def opt (o : Option D) (S : Store) : Res D := match o with
  | some x => .ok x S
  | none => .bad
def mOp (f : Store → D → D → Option D) (m n : ME) : ME := fun ρ S => (m ρ S).bind fun d S1 => (n ρ S1).bind fun e S2 => opt (f S2 d e) S2
def mUn (f : Store → D → Option D) (m : ME) : ME := fun ρ S => (m ρ S).bind fun d S1 => opt (f S1 d) S1
theorem RpL.step {K : PySem.W.Frag} {Z : ZT} {A : Wy} {S S1 : Store} {H H1 : Hp} (c : Cells K A S H) (p : Pst K A S H S1 H1) : ∀ {vs : List V} {ds : List D}, RpL K Z A S H vs ds → RpL K Z A S1 H1 vs ds
  | _, _, .nil => .nil
  | _, _, .cons h r => .cons (h.step c p) (RpL.step c p r)
section
variable {s : Sit} {a b : Expr} {m n : ME} {pos : Pos}
theorem fin_opt {A : Wy} {S : Store} {H : Hp} {σ : St} {Q : VK} {x : D} (c : Cells s.X.K A S H) (q : EOut s A S H σ Q (opt (some x) S)) :
    ∀ z H', Same H H' → RpS s.X.K s.Z A S H' z x → Fresh s.X.K A S H H' z x → Q z H' := fun z H' sm r f => q z H' (.of_same c sm) r f
theorem op_red {r : R2} {f : Store → D → D → Option D} (sem : OpSem s f r) {σ : St} {H : Hp} {Q : VK} (q : tD s (mOp f m n) σ H Q) : tOp r (tD s m) (tD s n) σ H Q := by
  obtain ⟨ρ, S, A, c, q⟩ := q
  refine tD_bind c q fun d S1 v H1 _ p1 c1 r1 _ q1 => ?_
  refine tD_bind c1 (q1.on c.cells p1) fun e S2 w H2 _ p2 c2 r2 _ q2 => ?_
  have q3 := q2.on c1.cells p2
  cases hf : f S2 d e with
  | none => rw [hf] at q3; exact q3.elim
  | some x =>
    rw [hf] at q3
    exact sem A S2 H2 v w d e x Q c2.cells (r1.step c1.cells p2) r2 hf (fin_opt c2.cells q3)
theorem se_bin {op : Operator} {r : R2} {f : Store → D → D → Option D} (ho : OpR s.X (binaryOp op) r) (sem : OpSem s f r) (ha : SE s a m) (hb : SE s b n) : SE s (.BinOp a op b pos) (mOp f m n) :=
  PE.weak (pe_op ho ha hb) fun _ _ _ q => op_red sem q
theorem se_cmp {op : CmpOp} {r : R2} {f : Store → D → D → Option D} (ho : OpR s.X (compareOp op) r) (sem : OpSem s f r) (ha : SE s a m) (hb : SE s b n) (hm : behindInMarks op b = false) : SE s (.Compare a [op] [b] pos) (mOp f m n) :=
  PE.weak (pe_cmpR ho ha hb hm) fun _ _ _ q => op_red sem q
theorem se_ix {r : R2} {f : Store → D → D → Option D} (ho : IxR s.X r) (sem : OpSem s f r) (ha : SE s a m) (hb : SE s b n) (hs : PlainIx b) : SE s (.Subscript a b pos) (mOp f m n) :=
  PE.weak (pe_ix ho ha hb hs) fun _ _ _ q => op_red sem q
theorem un_red {r : V → Hp → VK → Prop} {f : Store → D → Option D} (sem : UnSem s f r) {σ : St} {H : Hp} {Q : VK} (q : tD s (mUn f m) σ H Q) : tD s m σ H fun x H1 => r x H1 Q := by
  obtain ⟨ρ, S, A, c, q⟩ := q
  refine tD_bind c q fun d S1 v H1 _ p1 c1 r1 _ q1 => ?_
  have q3 := q1.on c.cells p1
  cases hf : f S1 d with
  | none => rw [hf] at q3; exact q3.elim
  | some x =>
    rw [hf] at q3
    exact sem A S1 H1 v d x Q c1.cells r1 hf (fin_opt c1.cells q3)
theorem se_un {op : UnaryOp} {r : V → Hp → VK → Prop} {f : Store → D → Option D} (ho : UnR s.X (unaryOp op) r) (sem : UnSem s f r) (ha : SE s a m) : SE s (.UnaryOp op a pos) (mUn f m) :=
  PE.weak (pe_un ho ha) fun _ _ _ q => un_red sem q
end

/-! ### arguments -/
abbrev MA := Rho → Store → Res (List D)
def AOut (s : Sit) (A : Wy) (S : Store) (H : Hp) (σ : St) (Q : List V → Hp → Prop) : Res (List D) → Prop
  | .ok ds S' => ∀ vs H', Pst s.X.K A S H S' H' → RpL s.X.K s.Z A S' H' vs ds → Q vs H'
  | .exc c fs S' => ∀ dd H', Pst s.X.K A S H S' H' → ExAt s.X.K H' (Own A S') c dd fs → s.W (.ref (s.cad c)) dd σ H'
  | .bad => False
def tDa (s : Sit) (m : MA) : TA := fun σ H Q => ∃ ρ S A, Cn s ρ S A σ H ∧ AOut s A S H σ Q (m ρ S)
def SA (s : Sit) (es : List Expr) (m : MA) : Prop := PA s.X es (tDa s m)
def aNil : MA := fun _ S => .ok [] S
def aCons (m : ME) (n : MA) : MA := fun ρ S => (m ρ S).bind fun d S1 => (n ρ S1).bind fun ds S2 => .ok (d :: ds) S2
section
variable {s : Sit} {ρ : Rho} {S S1 : Store} {A : Wy} {σ : St} {H H1 : Hp}
theorem PA.weak {X : Cx} {es : List Expr} {t t' : TA} (h : PA X es t) (w : ∀ σ H Q, t' σ H Q → t σ H Q) : PA X es t' := ⟨fun pos pins s σ H Q I q => h.run pos pins s σ H Q I (w _ _ _ q)⟩
theorem AOut.on {Q : List V → Hp → Prop} {r : Res (List D)} (p : Pst s.X.K A S H S1 H1) (h : AOut s A S H σ Q r) : AOut s A S1 H1 σ Q r := by
  cases r with
  | ok d S2 => intro v H2 p2 r2; exact h v H2 (p.trans p2) r2
  | exc x fs S2 => intro dd H2 p2 q; exact h dd H2 (p.trans p2) q
  | bad => exact h
/-- an argument list's part, of an argument list -/
theorem tD_bindA {m : ME} {k : D → Store → Res (List D)} {Q : List V → Hp → Prop} {Q' : VK} (c : Cn s ρ S A σ H) (h : AOut s A S H σ Q ((m ρ S).bind k))
    (go : ∀ d S1 v H1, m ρ S = .ok d S1 → Pst s.X.K A S H S1 H1 → Cn s ρ S1 A σ H1 → RpS s.X.K s.Z A S1 H1 v d → AOut s A S1 H1 σ Q (k d S1) → Q' v H1) : tD s m σ H Q' := by
  refine ⟨ρ, S, A, c, ?_⟩
  cases e : m ρ S with
  | ok d S1 => intro v H1 p r f; rw [e] at h; exact go d S1 v H1 e p (c.step p) r (AOut.on p h)
  | exc x fs S1 => intro dd H1 p q; rw [e] at h; exact h dd H1 p q
  | bad => rw [e] at h; exact h
theorem tDa_bindA {m : MA} {k : List D → Store → Res (List D)} {Q Q' : List V → Hp → Prop} (c : Cn s ρ S A σ H) (h : AOut s A S H σ Q ((m ρ S).bind k))
    (go : ∀ ds S1 vs H1, m ρ S = .ok ds S1 → Pst s.X.K A S H S1 H1 → Cn s ρ S1 A σ H1 → RpL s.X.K s.Z A S1 H1 vs ds → AOut s A S1 H1 σ Q (k ds S1) → Q' vs H1) : tDa s m σ H Q' := by
  refine ⟨ρ, S, A, c, ?_⟩
  cases e : m ρ S with
  | ok d S1 => intro v H1 p r; rw [e] at h; exact go d S1 v H1 e p (c.step p) r (AOut.on p h)
  | exc x fs S1 => intro dd H1 p q; rw [e] at h; exact h dd H1 p q
  | bad => rw [e] at h; exact h
/-- .. of an expression -/
theorem tDa_bind {m : MA} {k : List D → Store → Res D} {Q : VK} {Q' : List V → Hp → Prop} (c : Cn s ρ S A σ H) (h : EOut s A S H σ Q ((m ρ S).bind k))
    (go : ∀ ds S1 vs H1, m ρ S = .ok ds S1 → Pst s.X.K A S H S1 H1 → Cn s ρ S1 A σ H1 → RpL s.X.K s.Z A S1 H1 vs ds → EOut s A S1 H1 σ Q (k ds S1) → Q' vs H1) : tDa s m σ H Q' := by
  refine ⟨ρ, S, A, c, ?_⟩
  cases e : m ρ S with
  | ok d S1 => intro v H1 p r; rw [e] at h; exact go d S1 v H1 e p (c.step p) r (EOut.on c.cells p h)
  | exc x fs S1 => intro dd H1 p q; rw [e] at h; exact h dd H1 p q
  | bad => rw [e] at h; exact h
theorem sa_nil : SA s [] aNil := PA.weak pa_nil fun σ H Q q => by
  obtain ⟨ρ, S, A, c, q⟩ := q
  exact q [] H (.refl c.cells) .nil
theorem sa_cons {e : Expr} {es : List Expr} {m : ME} {n : MA} (he : SE s e m) (hr : SA s es n) (hs : starEach (e :: es) s.X.env = (false, eval e s.X.env) :: starEach es s.X.env := by rfl) : SA s (e :: es) (aCons m n) :=
  PA.weak (pa_cons he hr hs) fun σ H Q q => by
    obtain ⟨ρ, S, A, c, q⟩ := q
    refine tD_bindA c q fun d S1 v H1 _ p1 c1 r1 q1 => ?_
    refine tDa_bindA c1 q1 fun ds S2 vs H2 _ p2 c2 r2 q2 => ?_
    exact q2 (v :: vs) H2 (.refl c2.cells) (.cons (r1.step c1.cells p2) r2)
end
/-- f(e, ..), f built in -/
def mBlt (f : Store → List D → Option D) (n : MA) : ME := fun ρ S => (n ρ S).bind fun ds S1 => opt (f S1 ds) S1
section
variable {s : Sit} {e : Expr} {es : List Expr} {n : MA} {x : Str} {p pos : Pos} {id T : String} {r : List V → Hp → VK → Prop} {f : Store → List D → Option D}
theorem blt_red (sem : CallSem s f r) {σ : St} {H : Hp} {Q : VK} (q : tD s (mBlt f n) σ H Q) : tCB r (tDa s n) σ H Q := by
  obtain ⟨ρ, S, A, c, q⟩ := q
  refine tDa_bind c q fun ds S1 vs H1 _ p1 c1 r1 q1 => ?_
  cases hf : f S1 ds with
  | none => rw [hf] at q1; exact q1.elim
  | some x =>
    rw [hf] at q1
    exact sem A S1 H1 vs ds x Q c1.cells r1 hf (fin_opt c1.cells q1)
theorem se_callB (hc : CallR s.X (.builtin id) r) (sem : CallSem s f r) (hg : Gl s.X x) (hm : s.X.mg x = none) (hv : bootBuiltins x = some (.builtin id)) (ha : SA s (e :: es) n) (hn : x ≠ "__name__" := by decide) (hdb : (x == ("__debug__" : Str)) = false := by decide)
    (he : starEach (e :: es) s.X.env = (false, eval e s.X.env) :: starEach es s.X.env := by rfl) (hpl : (backTo pos (starEach es s.X.env)).any (·.1) = false := by rfl) : SE s (.Call (.Name x p) (e :: es) [] pos) (mBlt f n) :=
  PE.weak (pe_callB hc hg hm hv ha hn hdb he hpl) fun _ _ _ q => blt_red sem q
theorem se_callTy (hc : CallR s.X (.type T) r) (sem : CallSem s f r) (hg : Gl s.X x) (hm : s.X.mg x = none) (hv : bootBuiltins x = some (.type T)) (ha : SA s (e :: es) n) (hn : x ≠ "__name__" := by decide) (hdb : (x == ("__debug__" : Str)) = false := by decide)
    (he : starEach (e :: es) s.X.env = (false, eval e s.X.env) :: starEach es s.X.env := by rfl) (hpl : (backTo pos (starEach es s.X.env)).any (·.1) = false := by rfl) : SE s (.Call (.Name x p) (e :: es) [] pos) (mBlt f n) :=
  PE.weak (pe_callTy hc hg hm hv ha hn hdb he hpl) fun _ _ _ q => blt_red sem q
end
end Dv

set_option maxHeartbeats 4000000
namespace Dv
open PySem PySem.Spec PyProof.Rows L2
set_option autoImplicit false

/-! ### what a value is -/
/-- a cell's content, or the value itself -/
def vw (S : Store) : D → D
  | .loc n => (S[n]?.join).getD .non
  | d => d
mutual
def toPy : D → Option PyData
  | .non => some .none
  | .bl b => some (.bool b)
  | .int i => some (.int i)
  | .str x => some (.str x)
  | .tup xs => (toPyL xs).map .tuple
  | .lst _ xs => (toPyL xs).map .list
  | .rol xs => (toPyL xs).map .list
  | _ => none
def toPyL : List D → Option (List PyData)
  | [] => some []
  | x :: xs => match toPy x, toPyL xs with
    | some y, some ys => some (y :: ys)
    | _, _ => none
end
section
variable {K : PySem.W.Frag} {H : Hp} {O : Ow}
mutual
theorem Rp.dp : ∀ {d : D} {v : V} {p : PyData}, Rp K H O v d → toPy d = some p → Dp K H v p
  | .non, _, _, h, e => by cases h; simp only [toPy] at e; cases e; exact .non
  | .bl b, _, _, h, e => by cases h; simp only [toPy] at e; cases e; exact .bl b
  | .int i, _, _, h, e => by cases h; simp only [toPy] at e; cases e; exact .int i
  | .str x, _, _, h, e => by cases h; simp only [toPy] at e; cases e; exact .str x
  | .tup xs, _, _, h, e => by
    cases h with
    | tup h r =>
      simp only [toPy, Option.map_eq_some_iff] at e
      obtain ⟨ys, e1, e2⟩ := e
      cases e2
      exact .tup h (RpAll.dp r e1)
  | .lst _ xs, _, _, h, e => by
    cases h with
    | lst n h r =>
      simp only [toPy, Option.map_eq_some_iff] at e
      obtain ⟨ys, e1, e2⟩ := e
      cases e2
      exact .lst (.of h) (RpAll.dp r e1)
  | .rol xs, _, _, h, e => by
    cases h with
    | rol h r =>
      simp only [toPy, Option.map_eq_some_iff] at e
      obtain ⟨ys, e1, e2⟩ := e
      cases e2
      exact .lst h.seq (RpAll.dp r e1)
  | .ty _, _, _, _, e => by simp [toPy] at e
  | .adr _, _, _, _, e => by simp [toPy] at e
  | .loc _, _, _, _, e => by simp [toPy] at e
  | .dct _ _, _, _, _, e => by simp [toPy] at e
  | .obj _ _, _, _, _, e => by simp [toPy] at e
  | .tab _, _, _, _, e => by simp [toPy] at e
  | .err _ _, _, _, _, e => by simp [toPy] at e
theorem RpAll.dp : ∀ {ds : List D} {vs : List V} {ps : List PyData}, RpAll K H O vs ds → toPyL ds = some ps → DpAll K H vs ps
  | [], _, _, h, e => by cases h; simp only [toPyL] at e; cases e; exact .nil
  | x :: xs, _, _, h, e => by
    cases h with
    | cons r t =>
      simp only [toPyL] at e
      split at e
      · rename_i y ys h1 h2
        cases e
        exact .cons (Rp.dp r h1) (RpAll.dp t h2)
      · cases e
end
end
section
variable {K : PySem.W.Frag} {Z : ZT} {A : Wy} {S : Store} {H : Hp} {v w : V} {d e : D}
/-- how a value may be looked at -/
inductive Seen (K : PySem.W.Frag) (H : Hp) (O : Ow) : V → D → Prop
  | rp {v : V} {d : D} : Rp K H O v d → Seen K H O v d
  | cell {a : Addr} {d : D} : Cell K H O a d → Seen K H O (.ref a) d
theorem vw_old {d : D} (h : ∀ n, d ≠ .loc n) : vw S d = d := by
  cases d <;> first | rfl | exact absurd rfl (h _)
theorem RpS.seen (c : Cells K A S H) (r : RpS K Z A S H v d) (n : ∀ c fs, vw S d ≠ .err c fs) : Seen K H (Own A S) v (vw S d) := by
  rcases r with ⟨k, e, rfl, rfl, h⟩ | r | ⟨c, fs, dd, rfl, _⟩
  · show Seen K H (Own A S) _ ((S[k]?.join).getD .non)
    rw [h]
    exact .cell (c.at_ k e h)
  · rw [vw_old (by intro n; intro z; subst z; cases r)]
    exact .rp r
  · exact absurd rfl (n c fs)
theorem Seen.dp {O : Ow} {p : PyData} (s : Seen K H O v d) (e : toPy d = some p) : Dp K H v p := by
  cases s with
  | rp r => exact r.dp e
  | cell c =>
    cases c with
    | lst h r =>
      simp only [toPy, Option.map_eq_some_iff] at e
      obtain ⟨ys, e1, e2⟩ := e
      cases e2
      exact .lst (.of h) (r.dp e1)
    | dct h r => simp [toPy] at e
    | tab _ h => simp [toPy] at e
/-- the items of a list, a tuple -/
def seqOf : D → Option (List D)
  | .tup xs => some xs
  | .lst _ xs => some xs
  | .rol xs => some xs
  | _ => none
theorem Seen.seq {O : Ow} {ds : List D} (s : Seen K H O v d) (e : seqOf d = some ds) : ∃ a xs, v = .ref a ∧ (SqL K H a xs ∨ SqT K H a xs) ∧ RpAll K H O xs ds := by
  cases s with
  | rp r =>
    cases r <;> simp [seqOf] at e
    · subst e; rename_i a xs h r; exact ⟨_, _, rfl, .inr h, r⟩
    · subst e; rename_i a xs f n h r; exact ⟨_, _, rfl, .inl (.of h), r⟩
    · subst e; rename_i a xs h r; exact ⟨_, _, rfl, .inl h.seq, r⟩
  | cell c =>
    cases c with
    | lst h r =>
      simp [seqOf] at e
      subst e
      exact ⟨_, _, rfl, .inl (.of h), r⟩
    | dct h r => simp [seqOf] at e
    | tab _ h => simp [seqOf] at e
def lstOf : D → Option (List D)
  | .lst _ xs => some xs
  | .rol xs => some xs
  | _ => none
theorem Seen.list {O : Ow} {ds : List D} (s : Seen K H O v d) (e : lstOf d = some ds) : ∃ a xs, v = .ref a ∧ SqL K H a xs ∧ RpAll K H O xs ds := by
  cases s with
  | rp r =>
    cases r <;> simp [lstOf] at e
    · subst e; rename_i a xs f n h r; exact ⟨_, _, rfl, .of h, r⟩
    · subst e; rename_i a xs h r; exact ⟨_, _, rfl, h.seq, r⟩
  | cell c =>
    cases c with
    | lst h r =>
      simp [lstOf] at e
      subst e
      exact ⟨_, _, rfl, .of h, r⟩
    | dct h r => simp [lstOf] at e
    | tab _ h => simp [lstOf] at e
/-- a list that is tracked -/
theorem Seen.lst {O : Ow} {f : Bool} {ds : List D} (s : Seen K H O v (.lst f ds)) : ∃ a xs, v = .ref a ∧ H a = some (.lst xs) ∧ RpAll K H O xs ds := by
  cases s with
  | rp r => cases r with | lst n h r => exact ⟨_, _, rfl, h, r⟩
  | cell c => cases c with | lst h r => exact ⟨_, _, rfl, h, r⟩
theorem Seen.tup {O : Ow} {ds : List D} (s : Seen K H O v (.tup ds)) : ∃ a xs, v = .ref a ∧ SqT K H a xs ∧ RpAll K H O xs ds := by
  cases s with
  | rp r => cases r with | tup h r => exact ⟨_, _, rfl, h, r⟩
  | cell c => cases c
theorem Seen.int {O : Ow} {i : Int} (s : Seen K H O v (.int i)) : v = .int i := by
  cases s with
  | rp r => cases r; rfl
  | cell c => cases c
theorem Seen.bl {O : Ow} {i : Bool} (s : Seen K H O v (.bl i)) : v = .bl i := by
  cases s with
  | rp r => cases r; rfl
  | cell c => cases c
theorem Seen.str {O : Ow} {i : Str} (s : Seen K H O v (.str i)) : v = .str i := by
  cases s with
  | rp r => cases r; rfl
  | cell c => cases c
theorem Seen.non {O : Ow} (s : Seen K H O v .non) : v = .non := by
  cases s with
  | rp r => cases r; rfl
  | cell c => cases c

/-! ### made anew -/
theorem same_upd {H : Hp} {p : Addr} {o : HO} (h : H p = none) : Same H (upd H p o) := fun b x e => by
  rw [upd_ne (ne_of_none e h)]
  exact e
theorem own_some (c : Cells K A S H) {p : Addr} (h : H p = none) : ¬ Own A S p := fun z => by
  obtain ⟨o, q, _⟩ := c.owns p z
  rw [h] at q; cases q
theorem RpAll.same {vs : List V} {ds : List D} {H1 : Hp} (c : Cells K A S H) (sm : Same H H1) (r : RpAll K H (Own A S) vs ds) : RpAll K H1 (Own A S) vs ds := r.ext c.owns (.of_same sm) (.refl _ _)
theorem Rp.same {H1 : Hp} (c : Cells K A S H) (sm : Same H H1) (r : Rp K H (Own A S) v d) : Rp K H1 (Own A S) v d := r.ext c.owns (.of_same sm) (.refl _ _)
/-- a new list -/
theorem new_lst {Q : VK} {vs : List V} {ds : List D} (c : Cells K A S H) (r : RpAll K H (Own A S) vs ds) (q : ∀ z H', Same H H' → RpS K Z A S H' z (.lst true ds) → Fresh K A S H H' z (.lst true ds) → Q z H') :
    ∀ p, H p = none → Q (.ref p) (upd H p (.lst vs)) := fun p hp =>
  q _ _ (same_upd hp) (.inr (.inl (.lst (own_some c hp) upd_same (r.same c (same_upd hp))))) (.mk c (same_upd hp) hp (.lst upd_same (r.ext c.owns (.of_same (same_upd hp)) (.one hp))))
theorem new_tup {Q : VK} {vs : List V} {ds : List D} (c : Cells K A S H) (r : RpAll K H (Own A S) vs ds) (q : ∀ z H', Same H H' → RpS K Z A S H' z (.tup ds) → Fresh K A S H H' z (.tup ds) → Q z H') :
    ∀ p, H p = none → Q (.ref p) (upd H p (.tup vs)) := fun p hp =>
  q _ _ (same_upd hp) (.inr (.inl (.tup (.of upd_same) (r.same c (same_upd hp))))) (.old rfl)
theorem old_of {Q : VK} {x : D} {z : V} (r : Rp K H (Own A S) z x) (n : isNew x = false) (q : ∀ z H', Same H H' → RpS K Z A S H' z x → Fresh K A S H H' z x → Q z H') : Q z H :=
  q z H (Same.refl H) (.inr (.inl r)) (.old n)
end

/-! ### operations -/
def LINE : Nat := 16777216
theorem line_eq : sizeLine = LINE := sizeLine_eq
theorem noerr {S : Store} {d x : D} (h : vw S d = x) (n : ∀ c fs, x ≠ .err c fs) : ∀ c fs, vw S d ≠ .err c fs := by rw [h]; exact n
/-- what stands there, seen as x -/
theorem RpS.as {K : PySem.W.Frag} {Z : ZT} {A : Wy} {S : Store} {H : Hp} {v : V} {d x : D} (c : Cells K A S H) (r : RpS K Z A S H v d) (h : vw S d = x) (n : ∀ c fs, x ≠ .err c fs := by intros; exact fun z => nomatch z) : Seen K H (Own A S) v x :=
  h ▸ r.seen c (noerr h n)
def dII (g : Int → Int → Option D) (S : Store) (d e : D) : Option D := match vw S d, vw S e with
  | .int i, .int j => g i j
  | _, _ => none
section
variable {s : Sit}
/-- two ints, under C -/
theorem sem_ii {g : Int → Int → Option D} {C : Int → Int → Prop} {gv : Int → Int → V} {gd : Int → Int → D} (h1 : ∀ i j x, g i j = some x → C i j ∧ x = gd i j) (h2 : ∀ H O i j, Rp s.X.K H O (gv i j) (gd i j)) (h3 : ∀ i j, isNew (gd i j) = false) : OpSem s (dII g) (rI C gv) := by
  intro A S H v w d e x Q c rd re hf q
  unfold dII at hf
  split at hf
  · rename_i i j e1 e2
    obtain ⟨hc, rfl⟩ := h1 i j x hf
    exact ⟨i, j, (rd.as c e1).int, (re.as c e2).int, hc, old_of (h2 _ _ i j) (h3 i j) q⟩
  · cases hf
theorem sem_ii0 {gv : Int → Int → V} {gd : Int → Int → D} (h2 : ∀ H O i j, Rp s.X.K H O (gv i j) (gd i j)) (h3 : ∀ i j, isNew (gd i j) = false) : OpSem s (dII fun i j => some (gd i j)) (rI0 gv) := by
  intro A S H v w d e x Q c rd re hf q
  unfold dII at hf
  split at hf
  · rename_i i j e1 e2
    cases hf
    exact ⟨i, j, (rd.as c e1).int, (re.as c e2).int, old_of (h2 _ _ i j) (h3 i j) q⟩
  · cases hf
theorem OpSem.or {f g : Store → D → D → Option D} {r r' : R2} (h : OpSem s f r) (h' : OpSem s g r') : OpSem s (fun S d e => (f S d e).orElse fun _ => g S d e) (fun x y H Q => r x y H Q ∨ r' x y H Q) := by
  intro A S H v w d e x Q c rd re hf q
  dsimp only at hf
  cases hh : f S d e with
  | some y =>
    rw [hh] at hf
    cases hf
    exact .inl (h A S H v w d e _ Q c rd re hh q)
  | none =>
    rw [hh] at hf
    exact .inr (h' A S H v w d e x Q c rd re hf q)
end
/-! + -/
def dAdd (S : Store) (d e : D) : Option D := match vw S d, vw S e with
  | .int i, .int j => some (.int (i + j))
  | .str x, .str y => if x.length + y.length ≤ LINE then some (.str (x ++ y)) else none
  | .tup xs, .tup ys => if xs.length + ys.length ≤ LINE then some (.tup (xs ++ ys)) else none
  | .lst _ xs, .lst _ ys => if xs.length + ys.length ≤ LINE then some (.lst true (xs ++ ys)) else none
  | .int i, .bl b => some (.int (i + b2i b))
  | _, _ => none
def rAdd2 (K : PySem.W.Frag) : R2 := fun x y H Q => rI0 (fun i j => .int (i + j)) x y H Q ∨ (∃ i j, x = .str i ∧ y = .str j ∧ i.length + j.length ≤ sizeLine ∧ Q (.str (i ++ j)) H) ∨ rCatA K x y H Q ∨ rCat x y H Q ∨ (∃ i k, x = .int i ∧ y = .bl k ∧ Q (.int (i + b2i k)) H)
section
variable {s : Sit}
theorem op_add2 : OpR s.X (binaryOp .Add) (rAdd2 s.X.K) := op_add.or (op_add_str.or (op_catA.or (op_cat.or op_add_ib)))
theorem sem_add : OpSem s dAdd (rAdd2 s.X.K) := by
  intro A S H v w d e x Q c rd re hf q
  unfold dAdd at hf
  split at hf
  · rename_i i j h1 h2
    cases hf
    exact .inl ⟨i, j, (rd.as c h1).int, (re.as c h2).int, old_of (.int _) rfl q⟩
  · rename_i i j h1 h2
    split at hf
    · rename_i hl
      cases hf
      exact .inr (.inl ⟨i, j, (rd.as c h1).str, (re.as c h2).str, by rw [line_eq]; exact hl, old_of (.str _) rfl q⟩)
    · cases hf
  · rename_i i j h1 h2
    split at hf
    · rename_i hl
      cases hf
      obtain ⟨a, xs, rfl, ha, ra⟩ := (rd.as c h1).tup
      obtain ⟨b, ys, rfl, hb, rb⟩ := (re.as c h2).tup
      refine .inr (.inr (.inl ⟨a, b, xs, ys, rfl, rfl, ha, hb, by rw [line_eq, ra.length, rb.length]; exact hl, fun z => ?_, fun z1 z2 => ?_, fun z1 z2 => ?_⟩))
      · subst z
        cases ra
        exact old_of (.tup hb rb) rfl q
      · subst z2
        cases rb
        exact old_of (.tup ha (by rw [List.append_nil]; exact ra)) rfl q
      · exact new_tup c (ra.append rb) q
    · cases hf
  · rename_i f1 i f2 j h1 h2
    split at hf
    · rename_i hl
      cases hf
      obtain ⟨a, xs, rfl, ha, ra⟩ := (rd.as c h1).lst
      obtain ⟨b, ys, rfl, hb, rb⟩ := (re.as c h2).lst
      exact .inr (.inr (.inr (.inl ⟨a, b, xs, ys, rfl, rfl, ha, hb, by rw [line_eq, ra.length, rb.length]; exact hl, new_lst c (ra.append rb) q⟩)))
    · cases hf
  · rename_i i j h1 h2
    cases hf
    exact .inr (.inr (.inr (.inr ⟨i, j, (rd.as c h1).int, (re.as c h2).bl, old_of (.int _) rfl q⟩)))
  · cases hf
/-! the other ones on ints -/
def dSub := dII fun i j => some (.int (i - j))
theorem sem_sub : OpSem s dSub (rI0 fun i j => .int (i - j)) := sem_ii0 (fun _ _ _ _ => .int _) fun _ _ => rfl
def dAnd := dII fun i j => some (.int (Builtin.bitAnd i j))
theorem sem_band : OpSem s dAnd (rI0 fun i j => .int (Builtin.bitAnd i j)) := sem_ii0 (fun _ _ _ _ => .int _) fun _ _ => rfl
def dOr := dII fun i j => some (.int (Builtin.bitOr i j))
theorem sem_bor : OpSem s dOr (rI0 fun i j => .int (Builtin.bitOr i j)) := sem_ii0 (fun _ _ _ _ => .int _) fun _ _ => rfl
def dXor := dII fun i j => some (.int (Builtin.bitXor i j))
theorem sem_bxor : OpSem s dXor (rI0 fun i j => .int (Builtin.bitXor i j)) := sem_ii0 (fun _ _ _ _ => .int _) fun _ _ => rfl
def dMod := dII fun i j => if 0 < j then some (.int (i % j)) else none
theorem sem_mod : OpSem s dMod (rI (fun _ j => 0 < j) fun i j => .int (i % j)) := sem_ii (gd := fun i j => .int (i % j)) (fun i j x h => by split at h <;> cases h; exact ⟨‹_›, rfl⟩) (fun _ _ _ _ => .int _) fun _ _ => rfl
def dDiv := dII fun i j => if 0 < j ∧ j.natAbs.log2 < 9000 then some (.int (i / j)) else none
theorem sem_div : OpSem s dDiv (rI CDivW fun i j => .int (i / j)) := sem_ii (gd := fun i j => .int (i / j)) (fun i j x h => by split at h <;> cases h; exact ⟨‹_›, rfl⟩) (fun _ _ _ _ => .int _) fun _ _ => rfl
def dPow := dII fun i j => if 0 ≤ j ∧ j ≤ 1000000 ∧ i.natAbs < 2 ^ 64 then some (.int (i ^ j.toNat)) else none
theorem sem_pow : OpSem s dPow (rI CPow fun i j => .int (i ^ j.toNat)) := sem_ii (gd := fun i j => .int (i ^ j.toNat)) (fun i j x h => by split at h <;> cases h; exact ⟨‹_›, rfl⟩) (fun _ _ _ _ => .int _) fun _ _ => rfl
def dShl := dII fun i j => if 0 ≤ j ∧ j ≤ 1000000 ∧ i.natAbs < 2 ^ 64 then some (.int (i * 2 ^ j.toNat)) else none
theorem sem_shl : OpSem s dShl (rI CPow fun i j => .int (i * 2 ^ j.toNat)) := sem_ii (gd := fun i j => .int (i * 2 ^ j.toNat)) (fun i j x h => by split at h <;> cases h; exact ⟨‹_›, rfl⟩) (fun _ _ _ _ => .int _) fun _ _ => rfl
def dShr := dII fun i j => if 0 ≤ j then some (.int (i / 2 ^ j.toNat)) else none
theorem sem_shr : OpSem s dShr (rI (fun _ j => 0 ≤ j) fun i j => .int (i / 2 ^ j.toNat)) := sem_ii (gd := fun i j => .int (i / 2 ^ j.toNat)) (fun i j x h => by split at h <;> cases h; exact ⟨‹_›, rfl⟩) (fun _ _ _ _ => .int _) fun _ _ => rfl
/-- *: ints; a list so many times -/
def dRep (S : Store) (d e : D) : Option D := match vw S d, vw S e with
  | .lst _ xs, .int k => if k ≤ 9223372036854775807 ∧ -9223372036854775808 ≤ k ∧ xs.length * k.toNat ≤ LINE then some (.lst true (List.replicate k.toNat xs).flatten) else none
  | _, _ => none
theorem RpAll.rep {K : PySem.W.Frag} {H : Hp} {O : Ow} {vs : List V} {ds : List D} (r : RpAll K H O vs ds) : ∀ k : Nat, RpAll K H O (List.replicate k vs).flatten (List.replicate k ds).flatten
  | 0 => .nil
  | k + 1 => by
    rw [List.replicate_succ, List.replicate_succ, List.flatten_cons, List.flatten_cons]
    exact r.append (RpAll.rep r k)
theorem sem_rep : OpSem s dRep rRep := by
  intro A S H v w d e x Q c rd re hf q
  unfold dRep at hf
  split at hf
  · rename_i f xs k h1 h2
    split at hf
    · rename_i hl
      cases hf
      obtain ⟨a, vs, rfl, ha, ra⟩ := (rd.as c h1).lst
      exact ⟨a, k, vs, rfl, (re.as c h2).int, ha, by omega, by omega, by rw [line_eq, ra.length]; exact hl.2.2, new_lst c (ra.rep _) q⟩
    · cases hf
  · cases hf
def dMulI := dII fun i j => if i.natAbs.log2 + j.natAbs.log2 < 1000000 then some (.int (i * j)) else none
theorem sem_mulI : OpSem s dMulI (rI CMulW fun i j => .int (i * j)) := sem_ii (gd := fun i j => .int (i * j)) (fun i j x h => by split at h <;> cases h; exact ⟨‹_›, rfl⟩) (fun _ _ _ _ => .int _) fun _ _ => rfl
end
def dMul (S : Store) (d e : D) : Option D := (dMulI S d e).orElse fun _ => dRep S d e
section
variable {s : Sit}
theorem op_mul2 : OpR s.X (binaryOp .Mult) (fun x y H Q => rI CMulW (fun i j => .int (i * j)) x y H Q ∨ rRep x y H Q) := op_mulW.or op_rep
theorem sem_mul : OpSem s dMul (fun x y H Q => rI CMulW (fun i j => .int (i * j)) x y H Q ∨ rRep x y H Q) := sem_mulI.or sem_rep
/-! one place -/
def dNeg (S : Store) (d : D) : Option D := match vw S d with
  | .int i => some (.int (-i))
  | _ => none
def dInv (S : Store) (d : D) : Option D := match vw S d with
  | .int i => some (.int (Builtin.bitNot i))
  | _ => none
theorem sem_neg : UnSem s dNeg (rU fun i => .int (-i)) := by
  intro A S H v d x Q c rd hf q
  unfold dNeg at hf
  split at hf
  · rename_i i h1
    cases hf
    exact ⟨i, (rd.as c h1).int, old_of (.int _) rfl q⟩
  · cases hf
theorem sem_inv : UnSem s dInv (rU fun i => .int (Builtin.bitNot i)) := by
  intro A S H v d x Q c rd hf q
  unfold dInv at hf
  split at hf
  · rename_i i h1
    cases hf
    exact ⟨i, (rd.as c h1).int, old_of (.int _) rfl q⟩
  · cases hf

/-! ### comparisons -/
def dLt := dII fun i j => some (.bl (decide (i < j)))
theorem sem_lt : OpSem s dLt (rI0 fun i j => .bl (decide (i < j))) := sem_ii0 (fun _ _ _ _ => .bl _) fun _ _ => rfl
def dLe := dII fun i j => some (.bl (decide (i ≤ j)))
theorem sem_le : OpSem s dLe (rI0 fun i j => .bl (decide (i ≤ j))) := sem_ii0 (fun _ _ _ _ => .bl _) fun _ _ => rfl
def dGt := dII fun i j => some (.bl (decide (j < i)))
theorem sem_gt : OpSem s dGt (rI0 fun i j => .bl (decide (j < i))) := sem_ii0 (fun _ _ _ _ => .bl _) fun _ _ => rfl
def dGe := dII fun i j => some (.bl (decide (j ≤ i)))
theorem sem_ge : OpSem s dGe (rI0 fun i j => .bl (decide (j ≤ i))) := sem_ii0 (fun _ _ _ _ => .bl _) fun _ _ => rfl
end
/-- data that is compared -/
def pyOf (S : Store) (d : D) : Option PyData := match toPy (vw S d) with
  | some p => if SeqAt.shaped p then some p else none
  | none => none
def eqD (S : Store) (d e : D) : Option Bool := match vw S d, vw S e with
  | .int i, .int j => some (i == j)
  | .str x, .str y => some (x == y)
  | _, _ => match pyOf S d, pyOf S e with
    | some p, some q => some (PyData.eqv p q)
    | _, _ => none
def dEq (S : Store) (d e : D) : Option D := (eqD S d e).map .bl
def dNe (S : Store) (d e : D) : Option D := (eqD S d e).map fun b => .bl (!b)
section
variable {s : Sit}
theorem pyOf_dp {A : Wy} {S : Store} {H : Hp} {v : V} {d : D} {p : PyData} (c : Cells s.X.K A S H) (r : RpS s.X.K s.Z A S H v d) (h : pyOf S d = some p) : Dp s.X.K H v p ∧ SeqAt.shaped p = true := by
  unfold pyOf at h
  split at h
  · rename_i p' e
    split at h
    · rename_i hs
      cases h
      refine ⟨(r.seen c fun k fs z => ?_).dp e, hs⟩
      rw [z] at e
      simp [toPy] at e
    · cases h
  · cases h
theorem eqD_dp {A : Wy} {S : Store} {H : Hp} {v w : V} {d e : D} {b : Bool} (c : Cells s.X.K A S H) (rd : RpS s.X.K s.Z A S H v d) (re : RpS s.X.K s.Z A S H w e) (h : eqD S d e = some b) :
    (scal v w = true ∧ b = decide (v = w)) ∨ ∃ p q, Dp s.X.K H v p ∧ Dp s.X.K H w q ∧ SeqAt.shaped p = true ∧ SeqAt.shaped q = true ∧ b = PyData.eqv p q := by
  unfold eqD at h
  split at h
  · rename_i i j h1 h2
    cases h
    have e1 := (rd.as c h1).int
    have e2 := (re.as c h2).int
    subst e1 e2
    exact .inl ⟨rfl, dec_int.symm⟩
  · rename_i i j h1 h2
    cases h
    have e1 := (rd.as c h1).str
    have e2 := (re.as c h2).str
    subst e1 e2
    exact .inl ⟨rfl, dec_str.symm⟩
  · split at h
    · rename_i p q h1 h2
      cases h
      obtain ⟨a1, a2⟩ := pyOf_dp c rd h1
      obtain ⟨b1, b2⟩ := pyOf_dp c re h2
      exact .inr ⟨p, q, a1, b1, a2, b2, rfl⟩
    · cases h
def rEq2 (K : PySem.W.Frag) : R2 := fun x y H Q => rEq x y H Q ∨ rEqD K x y H Q
def rNe2 (K : PySem.W.Frag) : R2 := fun x y H Q => rNe x y H Q ∨ rNeD K x y H Q
theorem op_eq2 (hu : s.X.A.units + 64 < cLine) : OpR s.X (compareOp .Eq) (rEq2 s.X.K) := op_eq.or (op_eqD hu)
theorem op_ne2 (hu : s.X.A.units + 64 < cLine) : OpR s.X (compareOp .NotEq) (rNe2 s.X.K) := op_ne.or (op_neD hu)
theorem sem_eq : OpSem s dEq (rEq2 s.X.K) := by
  intro A S H v w d e x Q c rd re hf q
  simp only [dEq, Option.map_eq_some_iff] at hf
  obtain ⟨b, h, rfl⟩ := hf
  rcases eqD_dp c rd re h with ⟨h1, rfl⟩ | ⟨p, p', h1, h2, h3, h4, rfl⟩
  · exact .inl ⟨h1, old_of (.bl _) rfl q⟩
  · exact .inr ⟨p, p', h1, h2, h3, h4, old_of (.bl _) rfl q⟩
theorem sem_ne : OpSem s dNe (rNe2 s.X.K) := by
  intro A S H v w d e x Q c rd re hf q
  simp only [dNe, Option.map_eq_some_iff] at hf
  obtain ⟨b, h, rfl⟩ := hf
  rcases eqD_dp c rd re h with ⟨h1, rfl⟩ | ⟨p, p', h1, h2, h3, h4, rfl⟩
  · exact .inl ⟨h1, old_of (.bl _) rfl q⟩
  · exact .inr ⟨p, p', h1, h2, h3, h4, old_of (.bl _) rfl q⟩
/-- is None -/
def isNon (S : Store) (d : D) : Bool := match vw S d with
  | .non => true
  | _ => false
end
end Dv

set_option maxHeartbeats 4000000
namespace Dv
open PySem PySem.Spec PyProof.Rows L2
set_option autoImplicit false

/-! ### tests -/
abbrev MT := Rho → Store → Res Bool
def TOut (s : Sit) (A : Wy) (S : Store) (H : Hp) (σ : St) (Q : Bool → Hp → Prop) : Res Bool → Prop
  | .ok b S' => ∀ H', Pst s.X.K A S H S' H' → Q b H'
  | .exc c fs S' => ∀ dd H', Pst s.X.K A S H S' H' → ExAt s.X.K H' (Own A S') c dd fs → s.W (.ref (s.cad c)) dd σ H'
  | .bad => False
def tDt (s : Sit) (m : MT) : TT := fun σ H Q => ∃ ρ S A, Cn s ρ S A σ H ∧ TOut s A S H σ Q (m ρ S)
def ST (s : Sit) (e : Expr) (m : MT) : Prop := PT s.X e (tDt s m)
def SW (s : Sit) (e : Expr) (m : MT) : Prop := PW s.X e (tDt s m)
section
variable {s : Sit} {ρ : Rho} {S S1 : Store} {A : Wy} {σ : St} {H H1 : Hp}
theorem PT.weak {X : Cx} {e : Expr} {t t' : TT} (h : PT X e t) (w : ∀ σ H Q, t' σ H Q → t σ H Q) : PT X e t' := ⟨fun pins s σ H Q I q => h.run pins s σ H Q I (w _ _ _ q)⟩
theorem PW.weak {X : Cx} {e : Expr} {t t' : TT} (h : PW X e t) (w : ∀ σ H Q, t' σ H Q → t σ H Q) : PW X e t' := ⟨fun wh pins s σ H Q I q => h.run wh pins s σ H Q I (w _ _ _ q)⟩
theorem TOut.on {Q : Bool → Hp → Prop} {r : Res Bool} (p : Pst s.X.K A S H S1 H1) (h : TOut s A S H σ Q r) : TOut s A S1 H1 σ Q r := by
  cases r with
  | ok d S2 => intro H2 p2; exact h H2 (p.trans p2)
  | exc x fs S2 => intro dd H2 p2 q; exact h dd H2 (p.trans p2) q
  | bad => exact h
/-- a part of a test: an expression -/
theorem tD_bindT {m : ME} {k : D → Store → Res Bool} {Q : Bool → Hp → Prop} {Q' : VK} (c : Cn s ρ S A σ H) (h : TOut s A S H σ Q ((m ρ S).bind k))
    (go : ∀ d S1 v H1, m ρ S = .ok d S1 → Pst s.X.K A S H S1 H1 → Cn s ρ S1 A σ H1 → RpS s.X.K s.Z A S1 H1 v d → TOut s A S1 H1 σ Q (k d S1) → Q' v H1) : tD s m σ H Q' := by
  refine ⟨ρ, S, A, c, ?_⟩
  cases e : m ρ S with
  | ok d S1 => intro v H1 p r f; rw [e] at h; exact go d S1 v H1 e p (c.step p) r (TOut.on p h)
  | exc x fs S1 => intro dd H1 p q; rw [e] at h; exact h dd H1 p q
  | bad => rw [e] at h; exact h
/-- a part of a test: a test -/
theorem tDt_bindT {m : MT} {k : Bool → Store → Res Bool} {Q : Bool → Hp → Prop} {Q' : Bool → Hp → Prop} (c : Cn s ρ S A σ H) (h : TOut s A S H σ Q ((m ρ S).bind k))
    (go : ∀ b S1 H1, m ρ S = .ok b S1 → Pst s.X.K A S H S1 H1 → Cn s ρ S1 A σ H1 → TOut s A S1 H1 σ Q (k b S1) → Q' b H1) : tDt s m σ H Q' := by
  refine ⟨ρ, S, A, c, ?_⟩
  cases e : m ρ S with
  | ok d S1 => intro H1 p; rw [e] at h; exact go d S1 H1 e p (c.step p) (TOut.on p h)
  | exc x fs S1 => intro dd H1 p q; rw [e] at h; exact h dd H1 p q
  | bad => rw [e] at h; exact h
/-- a part of an expression: a test -/
theorem tDt_bind {m : MT} {k : Bool → Store → Res D} {Q : VK} {Q' : Bool → Hp → Prop} (c : Cn s ρ S A σ H) (h : EOut s A S H σ Q ((m ρ S).bind k))
    (go : ∀ b S1 H1, m ρ S = .ok b S1 → Pst s.X.K A S H S1 H1 → Cn s ρ S1 A σ H1 → EOut s A S1 H1 σ Q (k b S1) → Q' b H1) : tDt s m σ H Q' := by
  refine ⟨ρ, S, A, c, ?_⟩
  cases e : m ρ S with
  | ok d S1 => intro H1 p; rw [e] at h; exact go d S1 H1 e p (c.step p) (EOut.on c.cells p h)
  | exc x fs S1 => intro dd H1 p q; rw [e] at h; exact h dd H1 p q
  | bad => rw [e] at h; exact h
end

/-- truth -/
def truD (S : Store) (d : D) : Option Bool := match vw S d with
  | .non => some false
  | .bl b => some b
  | .int i => some (i != 0)
  | .str x => if x.length ≤ LINE then some ((x.length : Int) != 0) else none
  | .tup xs => some (!xs.isEmpty)
  | .lst _ xs => some (!xs.isEmpty)
  | .rol xs => some (!xs.isEmpty)
  | _ => none
section
variable {s : Sit} {A : Wy} {S : Store} {H : Hp} {v : V} {d : D} {b : Bool}
theorem RpAll.isEmpty {K : PySem.W.Frag} {O : Ow} {vs : List V} {ds : List D} (r : RpAll K H O vs ds) : vs.isEmpty = ds.isEmpty := by
  cases r <;> rfl
theorem truD_ok (c : Cells s.X.K A S H) (r : RpS s.X.K s.Z A S H v d) (h : truD S d = some b) : TruV s.X.K v H b := by
  unfold truD at h
  split at h
  · rename_i e; cases h; rw [(r.as c e).non]; rfl
  · rename_i x e; cases h; rw [(r.as c e).bl]; rfl
  · rename_i x e; cases h; rw [(r.as c e).int]; rfl
  · rename_i x e
    split at h
    · rename_i hl; cases h; rw [(r.as c e).str]; exact ⟨by rw [line_eq]; exact hl, rfl⟩
    · cases h
  · rename_i x e
    cases h
    obtain ⟨a, xs, rfl, h1, h2⟩ := (r.as c e).tup
    exact .inr (.inl ⟨xs, h1, by rw [h2.isEmpty]⟩)
  · rename_i x e
    cases h
    obtain ⟨a, xs, rfl, h1, h2⟩ := (r.as c e).lst
    exact .inl ⟨xs, .of h1, by rw [h2.isEmpty]⟩
  · rename_i x e
    cases h
    obtain ⟨a, xs, rfl, h1, h2⟩ := (r.as c e).list rfl
    exact .inl ⟨xs, h1, by rw [h2.isEmpty]⟩
  · cases h
end
def optB (o : Option Bool) (S : Store) : Res Bool := match o with
  | some b => .ok b S
  | none => .bad
/-- an expression's truth -/
def mT (m : ME) : MT := fun ρ S => (m ρ S).bind fun d S1 => optB (truD S1 d) S1
/-- a comparison's answer -/
def mTB (m : ME) : MT := fun ρ S => (m ρ S).bind fun d S1 => match d with
  | .bl b => .ok b S1
  | _ => .bad
def mAndT (m n : MT) : MT := fun ρ S => (m ρ S).bind fun b S1 => if b then n ρ S1 else .ok false S1
def mOrT (m n : MT) : MT := fun ρ S => (m ρ S).bind fun b S1 => if b then .ok true S1 else n ρ S1
def mNotT (m : MT) : MT := fun ρ S => (m ρ S).bind fun b S1 => .ok (!b) S1
/-- and, or, not as values -/
def mAnd (m n : ME) : ME := fun ρ S => (m ρ S).bind fun d S1 => match truD S1 d with
  | some true => n ρ S1
  | some false => .ok d S1
  | none => .bad
def mOr (m n : ME) : ME := fun ρ S => (m ρ S).bind fun d S1 => match truD S1 d with
  | some true => .ok d S1
  | some false => n ρ S1
  | none => .bad
def mNot (m : ME) : ME := fun ρ S => (m ρ S).bind fun d S1 => match truD S1 d with
  | some b => .ok (.bl (!b)) S1
  | none => .bad
def mIf (c : MT) (m n : ME) : ME := fun ρ S => (c ρ S).bind fun b S1 => if b then m ρ S1 else n ρ S1
section
variable {s : Sit} {a b : Expr} {rest : List Expr} {m n : ME} {c t u : MT} {pos : Pos}
theorem st_truth (ha : SE s a m) (he : ∀ whole, isTrue a s.X.env whole = (do let v ← whole; standAt a.pos; holding [v] (truthy v)) := by intro _; rfl) : ST s a (mT m) := by
  refine PT.weak (pt_truth ha he) fun σ H Q q => ?_
  obtain ⟨ρ, S, A, c, q⟩ := q
  refine tD_bindT c q fun d S1 v H1 _ p1 c1 r1 q1 => ?_
  cases e : truD S1 d with
  | none => rw [e] at q1; exact q1.elim
  | some k =>
    rw [e] at q1
    exact ⟨k, truD_ok c1.cells r1 e, q1 H1 (.refl c1.cells)⟩
theorem st_cmp {op : CmpOp} {r : R2} {f : Store → D → D → Option D} (ho : OpR s.X (compareOp op) r) (sem : OpSem s f r) (ha : SE s a m) (hb : SE s b n) (hm : behindInMarks op b = false) : ST s (.Compare a [op] [b] pos) (mTB (mOp f m n)) := by
  refine PT.weak (pt_cmpR ho ha hb hm) fun σ H Q q => ?_
  obtain ⟨ρ, S, A, c, q⟩ := q
  refine op_red sem ⟨ρ, S, A, c, ?_⟩
  have q : TOut s A S H σ Q ((mOp f m n ρ S).bind fun d S1 => match d with | .bl b => .ok b S1 | _ => .bad) := q
  cases e : mOp f m n ρ S with
  | ok d S1 =>
    rw [e] at q
    intro v H1 p r _
    cases d with
    | bl k =>
      have : v = .bl k := by
        rcases r with ⟨_, _, z, _⟩ | r | ⟨_, _, _, z, _⟩
        · cases z
        · cases r; rfl
        · cases z
      exact ⟨k, this, q H1 p⟩
    | _ => exact q.elim
  | exc x fs S1 => rw [e] at q; exact q
  | bad => rw [e] at q; exact q
theorem sw_and1 (ha : ST s a t) : SW s (.BoolOp .And [a] pos) t := pw_and1 ha
theorem sw_or1 (ha : ST s a t) : SW s (.BoolOp .Or [a] pos) t := pw_or1 ha
theorem sw_and (ha : ST s a t) (hb : SW s (.BoolOp .And (b :: rest) pos) u) : SW s (.BoolOp .And (a :: b :: rest) pos) (mAndT t u) := by
  refine PW.weak (pw_and ha hb) fun σ H Q q => ?_
  obtain ⟨ρ, S, A, c, q⟩ := q
  refine tDt_bindT c q fun k S1 H1 _ p1 c1 q1 => ?_
  cases k with
  | true => exact iteT ⟨ρ, S1, A, c1, q1⟩
  | false => exact iteF (q1 H1 (.refl c1.cells))
theorem sw_or (ha : ST s a t) (hb : SW s (.BoolOp .Or (b :: rest) pos) u) : SW s (.BoolOp .Or (a :: b :: rest) pos) (mOrT t u) := by
  refine PW.weak (pw_or ha hb) fun σ H Q q => ?_
  obtain ⟨ρ, S, A, c, q⟩ := q
  refine tDt_bindT c q fun k S1 H1 _ p1 c1 q1 => ?_
  cases k with
  | true => exact iteT (q1 H1 (.refl c1.cells))
  | false => exact iteF ⟨ρ, S1, A, c1, q1⟩
theorem SW.st (h : SW s a t) : ST s a t := L2.PW.pt h
theorem st_not (ha : ST s a t) : ST s (.UnaryOp .Not a pos) (mNotT t) := by
  refine PT.weak (pt_not ha) fun σ H Q q => ?_
  obtain ⟨ρ, S, A, c, q⟩ := q
  exact tDt_bindT c q fun k S1 H1 _ p1 c1 q1 => q1 H1 (.refl c1.cells)
theorem se_one {op} (ha : SE s a m) : SE s (.BoolOp op [a] pos) m := pe_one ha
theorem se_and (ha : SE s a m) (hb : SE s (.BoolOp .And (b :: rest) pos) n) : SE s (.BoolOp .And (a :: b :: rest) pos) (mAnd m n) := by
  refine PE.weak (pe_andT ha hb) fun σ H Q q => ?_
  obtain ⟨ρ, S, A, c, q⟩ := q
  refine tD_bind c q fun d S1 v H1 _ p1 c1 r1 f1 q1 => ?_
  cases e : truD S1 d with
  | none => rw [e] at q1; exact q1.elim
  | some k =>
    rw [e] at q1
    refine ⟨k, truD_ok c1.cells r1 e, ?_⟩
    cases k with
    | true => exact iteT ⟨ρ, S1, A, c1, q1.on c.cells p1⟩
    | false => exact iteF (q1 v H1 p1 r1 f1)
theorem se_or (ha : SE s a m) (hb : SE s (.BoolOp .Or (b :: rest) pos) n) : SE s (.BoolOp .Or (a :: b :: rest) pos) (mOr m n) := by
  refine PE.weak (pe_orT ha hb) fun σ H Q q => ?_
  obtain ⟨ρ, S, A, c, q⟩ := q
  refine tD_bind c q fun d S1 v H1 _ p1 c1 r1 f1 q1 => ?_
  cases e : truD S1 d with
  | none => rw [e] at q1; exact q1.elim
  | some k =>
    rw [e] at q1
    refine ⟨k, truD_ok c1.cells r1 e, ?_⟩
    cases k with
    | true => exact iteT (q1 v H1 p1 r1 f1)
    | false => exact iteF ⟨ρ, S1, A, c1, q1.on c.cells p1⟩
theorem se_not (ha : SE s a m) : SE s (.UnaryOp .Not a pos) (mNot m) := by
  refine PE.weak (pe_notT ha) fun σ H Q q => ?_
  obtain ⟨ρ, S, A, c, q⟩ := q
  refine tD_bind c q fun d S1 v H1 _ p1 c1 r1 f1 q1 => ?_
  cases e : truD S1 d with
  | none => rw [e] at q1; exact q1.elim
  | some k =>
    rw [e] at q1
    exact ⟨k, truD_ok c1.cells r1 e, q1 _ H1 p1 (.inr (.inl (.bl _))) (.old rfl)⟩
theorem se_ifExp {e : Expr} (hc : ST s e c) (ha : SE s a m) (hb : SE s b n) : SE s (.IfExp e a b pos) (mIf c m n) := by
  refine PE.weak (pe_ifExp hc ha hb) fun σ H Q q => ?_
  obtain ⟨ρ, S, A, cn, q⟩ := q
  refine tDt_bind cn q fun k S1 H1 _ p1 c1 q1 => ?_
  cases k with
  | true => exact iteT ⟨ρ, S1, A, c1, q1⟩
  | false => exact iteF ⟨ρ, S1, A, c1, q1⟩
/-! is None -/
def isN : D → Bool
  | .non => true
  | _ => false
def mIsN (m : ME) : ME := fun ρ S => (m ρ S).bind fun d S1 => .ok (.bl (isN d)) S1
def mNotN (m : ME) : ME := fun ρ S => (m ρ S).bind fun d S1 => .ok (.bl (!isN d)) S1
theorem is_non {A : Wy} {S : Store} {H : Hp} {v : V} {d : D} (r : RpS s.X.K s.Z A S H v d) (nz : ∀ c dd, ¬ s.Z .non c dd) : decide (v = .non) = (isN d) := by
  rcases r with ⟨n, e, rfl, rfl, _⟩ | r | ⟨c, fs, dd, rfl, z, _⟩
  · rfl
  · cases r <;> rfl
  · cases v <;> first | rfl | exact absurd z (nz _ _)
theorem se_isN {j pos'} (nz : ∀ c dd, ¬ s.Z .non c dd) (ha : SE s a m) : SE s (.Compare a [.Is] [.Constant .none j pos'] pos) (mIsN m) := by
  refine PE.weak (pe_cmp (pc_isN ha)) fun σ H Q q => ?_
  obtain ⟨ρ, S, A, c, q⟩ := q
  refine tD_bind c q fun d S1 v H1 _ p1 c1 r1 f1 q1 => ?_
  rw [is_non r1 nz]
  exact q1 _ H1 p1 (.inr (.inl (.bl _))) (.old rfl)
theorem se_notN {j pos'} (nz : ∀ c dd, ¬ s.Z .non c dd) (ha : SE s a m) : SE s (.Compare a [.IsNot] [.Constant .none j pos'] pos) (mNotN m) := by
  refine PE.weak (pe_cmp (pc_notN ha)) fun σ H Q q => ?_
  obtain ⟨ρ, S, A, c, q⟩ := q
  refine tD_bind c q fun d S1 v H1 _ p1 c1 r1 f1 q1 => ?_
  rw [is_non r1 nz]
  exact q1 _ H1 p1 (.inr (.inl (.bl _))) (.old rfl)
theorem st_isN {j pos'} (nz : ∀ c dd, ¬ s.Z .non c dd) (ha : SE s a m) : ST s (.Compare a [.Is] [.Constant .none j pos'] pos) (mTB (mIsN m)) := by
  refine PT.weak (pt_cmp (pc_isN ha)) fun σ H Q q => ?_
  obtain ⟨ρ, S, A, c, q⟩ := q
  have q : TOut s A S H σ Q ((m ρ S).bind fun d S1 => .ok (isN d) S1) := by
    unfold mTB mIsN at q
    cases e : m ρ S <;> (rw [e] at q; exact q)
  refine tD_bindT c q fun d S1 v H1 _ p1 c1 r1 q1 => ?_
  rw [is_non r1 nz]
  exact ⟨_, rfl, q1 H1 (.refl c1.cells)⟩
theorem st_notN {j pos'} (nz : ∀ c dd, ¬ s.Z .non c dd) (ha : SE s a m) : ST s (.Compare a [.IsNot] [.Constant .none j pos'] pos) (mTB (mNotN m)) := by
  refine PT.weak (pt_cmp (pc_notN ha)) fun σ H Q q => ?_
  obtain ⟨ρ, S, A, c, q⟩ := q
  have q : TOut s A S H σ Q ((m ρ S).bind fun d S1 => .ok (!isN d) S1) := by
    unfold mTB mNotN at q
    cases e : m ρ S <;> (rw [e] at q; exact q)
  refine tD_bindT c q fun d S1 v H1 _ p1 c1 r1 q1 => ?_
  rw [is_non r1 nz]
  exact ⟨_, rfl, q1 H1 (.refl c1.cells)⟩
/-! a op b op' c -/
def mChain (f g : Store → D → D → Option D) (m n o : ME) : ME := fun ρ S => (m ρ S).bind fun d S1 => (n ρ S1).bind fun e S2 => match f S2 d e with
  | some (.bl true) => (o ρ S2).bind fun x S3 => opt (g S3 e x) S3
  | some (.bl false) => .ok (.bl false) S2
  | _ => .bad
theorem bl_of {A : Wy} {S : Store} {H : Hp} {v : V} {k : Bool} (r : RpS s.X.K s.Z A S H v (.bl k)) : v = .bl k := by
  rcases r with ⟨_, _, z, _⟩ | r | ⟨_, _, _, z, _⟩
  · cases z
  · cases r; rfl
  · cases z
variable {o : ME} {e : Expr}
theorem chain_red {r r' : R2} {f g : Store → D → D → Option D} (sem : OpSem s f r) (sem' : OpSem s g r') {σ : St} {H : Hp} {Q : VK} (q : tD s (mChain f g m n o) σ H Q) : tChain r r' (tD s m) (tD s n) (tD s o) σ H Q := by
  obtain ⟨ρ, S, A, c, q⟩ := q
  refine tD_bind c q fun d S1 v H1 _ p1 c1 r1 _ q1 => ?_
  refine tD_bind c1 (q1.on c.cells p1) fun e S2 w H2 _ p2 c2 r2 _ q2 => ?_
  have q3 := q2.on c1.cells p2
  have r1' := r1.step c1.cells p2
  cases hf : f S2 d e with
  | none => rw [hf] at q3; exact q3.elim
  | some x =>
    rw [hf] at q3
    refine sem A S2 H2 v w d e x _ c2.cells r1' r2 hf fun z H3 sm rz _ => ?_
    have p3 : Pst s.X.K A S2 H2 S2 H3 := .of_same c2.cells sm
    cases x with
    | bl k =>
      refine ⟨k, bl_of rz, ?_⟩
      cases k with
      | true =>
        refine iteT (tD_bind (c2.step p3) (q3.on c2.cells p3) fun x S4 u H4 _ p4 c4 r4 _ q4 => ?_)
        have q5 := q4.on (c2.step p3).cells p4
        cases hg : g S4 e x with
        | none => rw [hg] at q5; exact q5.elim
        | some y =>
          rw [hg] at q5
          exact sem' A S4 H4 w u e x y Q c4.cells ((r2.step c2.cells p3).step (c2.step p3).cells p4) r4 hg (fin_opt c4.cells q5)
      | false => exact iteF (q3 _ H3 p3 (.inr (.inl (.bl _))) (.old rfl))
    | _ => exact q3.elim
theorem se_chain {op op' : CmpOp} {r r' : R2} {f g : Store → D → D → Option D} (ho : OpR s.X (compareOp op) r) (ho' : OpR s.X (compareOp op') r') (sem : OpSem s f r) (sem' : OpSem s g r') (ha : SE s a m) (hb : SE s b n) (hc : SE s e o)
    (hm : lastMarks [op, op'] [b, e] = false := by with_unfolding_all rfl) : SE s (.Compare a [op, op'] [b, e] pos) (mChain f g m n o) :=
  PE.weak (pe_chain ho ho' ha hb hc hm) fun _ _ _ q => chain_red sem sem' q
theorem st_chain {op op' : CmpOp} {r r' : R2} {f g : Store → D → D → Option D} (ho : OpR s.X (compareOp op) r) (ho' : OpR s.X (compareOp op') r') (sem : OpSem s f r) (sem' : OpSem s g r') (ha : SE s a m) (hb : SE s b n) (hc : SE s e o)
    (hm : lastMarks [op, op'] [b, e] = false := by with_unfolding_all rfl) : ST s (.Compare a [op, op'] [b, e] pos) (mTB (mChain f g m n o)) := by
  refine PT.weak (pt_chain ho ho' ha hb hc hm) fun σ H Q q => ?_
  obtain ⟨ρ, S, A, c, q⟩ := q
  refine chain_red sem sem' ⟨ρ, S, A, c, ?_⟩
  have q : TOut s A S H σ Q ((mChain f g m n o ρ S).bind fun d S1 => match d with | .bl b => .ok b S1 | _ => .bad) := q
  cases e : mChain f g m n o ρ S with
  | ok d S1 =>
    rw [e] at q
    intro v H1 p r _
    cases d with
    | bl k => exact ⟨k, bl_of r, q H1 p⟩
    | _ => exact q.elim
  | exc x fs S1 => rw [e] at q; exact q
  | bad => rw [e] at q; exact q
end

/-! ### displays -/
def plain : D → Bool
  | .loc _ => false
  | .err _ _ => false
  | _ => true
def plainL : List D → Bool
  | [] => true
  | d :: ds => plain d && plainL ds
/-- held by something: no more fresh -/
def cool : D → D
  | .lst _ xs => .lst false xs
  | .dct _ k => .dct false k
  | d => d
def coolL : List D → List D
  | [] => []
  | d :: ds => cool d :: coolL ds
theorem coolL_len : ∀ ds : List D, (coolL ds).length = ds.length
  | [] => rfl
  | _ :: ds => by simp [coolL, coolL_len ds]
theorem Rp.cool {K : PySem.W.Frag} {H : Hp} {O : Ow} {v : V} {d : D} (r : Rp K H O v d) : Rp K H O v (cool d) := by
  cases r with
  | lst n h r => exact .lst n h r
  | dct n h r => exact .dct n h r
  | obj h r => exact .obj h r
  | _ => first | exact .non | exact .bl _ | exact .int _ | exact .str _ | exact .ty _ | exact .adr _ | exact .tup ‹_› ‹_› | exact .rol ‹_› ‹_›
theorem RpS.plain {K : PySem.W.Frag} {Z : ZT} {A : Wy} {S : Store} {H : Hp} {v : V} {d : D} (r : RpS K Z A S H v d) (h : plain d = true) : Rp K H (Own A S) v d :=
  r.rp (fun n z => by subst z; cases h) fun c fs z => by subst z; cases h
theorem RpL.plain {K : PySem.W.Frag} {Z : ZT} {A : Wy} {S : Store} {H : Hp} : ∀ {vs : List V} {ds : List D}, RpL K Z A S H vs ds → plainL ds = true → RpAll K H (Own A S) vs (coolL ds)
  | _, _, .nil, _ => .nil
  | _, _, .cons r t, h => by
    simp only [plainL, Bool.and_eq_true] at h
    exact .cons (r.plain h.1).cool (RpL.plain t h.2)
theorem RpL.length {K : PySem.W.Frag} {Z : ZT} {A : Wy} {S : Store} {H : Hp} : ∀ {vs : List V} {ds : List D}, RpL K Z A S H vs ds → vs.length = ds.length
  | _, _, .nil => rfl
  | _, _, .cons _ t => by simp [RpL.length t]
def mTup (n : MA) : ME := fun ρ S => (n ρ S).bind fun ds S1 => if plainL ds && decide (ds.length ≤ LINE) then .ok (.tup (coolL ds)) S1 else .bad
def mLst (n : MA) : ME := fun ρ S => (n ρ S).bind fun ds S1 => if plainL ds && decide (ds.length ≤ LINE) then .ok (.lst true (coolL ds)) S1 else .bad
section
variable {s : Sit} {es : List Expr} {n : MA} {pos : Pos}
theorem se_tup {x1} (h : SA s es n) : SE s (.Tuple es x1 pos) (mTup n) := by
  refine PE.weak (pe_tup h) fun σ H Q q => ?_
  obtain ⟨ρ, S, A, c, q⟩ := q
  refine tDa_bind c q fun ds S1 vs H1 _ p1 c1 r1 q1 => ?_
  split at q1
  · rename_i hp
    simp only [Bool.and_eq_true, decide_eq_true_eq] at hp
    refine ⟨by rw [line_eq, r1.length]; exact hp.2, new_tup c1.cells (r1.plain hp.1) (fin_opt c1.cells (x := .tup (coolL ds)) q1)⟩
  · exact q1.elim
theorem se_lst (h : SA s es n) : SE s (.List es pos) (mLst n) := by
  refine PE.weak (pe_lst h) fun σ H Q q => ?_
  obtain ⟨ρ, S, A, c, q⟩ := q
  refine tDa_bind c q fun ds S1 vs H1 _ p1 c1 r1 q1 => ?_
  split at q1
  · rename_i hp
    simp only [Bool.and_eq_true, decide_eq_true_eq] at hp
    refine ⟨by rw [line_eq, r1.length]; exact hp.2, new_lst c1.cells (r1.plain hp.1) (fin_opt c1.cells (x := .lst true (coolL ds)) q1)⟩
  · exact q1.elim
end
end Dv

set_option maxHeartbeats 4000000
namespace Dv
open PySem PySem.Spec PyProof.Rows L2
set_option autoImplicit false

inductive ResS where
  | nx (ρ : Rho) (S : Store)
  | rt (d : D) (S : Store)
  | bk (ρ : Rho) (S : Store)
  | ct (ρ : Rho) (S : Store)
  | exc (c : Nat) (fs : List D) (ρ : Rho) (S : Store)
  | bad
abbrev MS := Rho → Store → ResS

/-- behind statements: from the def's entry on the cells below base stand where they stood -/
structure Pss (base : Nat) (A : Wy) (S : Store) (H : Hp) (A' : Wy) (S' : Store) (H' : Hp) : Prop where
  ext : Ext (OwC A S) H H'
  grow : Grow H (OwC A S) (OwC A' S')
  free : ∀ a, H' a = none → H a = none
  low : ∀ n, n < base → A'.loc n = A.loc n
  ph : A'.ph = A.ph
  lives : ∀ n : Nat, n < base → (S'[n]?.join).isSome = (S[n]?.join).isSome
  len : S'.length = S.length
section
variable {K : PySem.W.Frag} {b : Nat} {A A1 A2 : Wy} {S S1 S2 : Store} {H H1 H2 : Hp}
theorem Pss.refl : Pss b A S H A S H := ⟨.refl _ _, .refl _ _, fun _ h => h, fun _ _ => rfl, rfl, fun _ _ => rfl, rfl⟩
theorem Pss.trans (p : Pss b A S H A1 S1 H1) (q : Pss b A1 S1 H1 A2 S2 H2) : Pss b A S H A2 S2 H2 where
  ext := fun a o h n => q.ext a o (p.ext a o h n) fun z => (p.grow a z).elim n fun z => by rw [h] at z; cases z
  grow := fun a z => (q.grow a z).elim (fun z => p.grow a z) fun z => .inr (p.free a z)
  free := fun a h => p.free a (q.free a h)
  low := fun n h => (q.low n h).trans (p.low n h)
  ph := q.ph.trans p.ph
  lives := fun n h => (q.lives n h).trans (p.lives n h)
  len := q.len.trans p.len
theorem Pst.pss (c : Cells K A S H) (p : Pst K A S H S1 H1) : Pss b A S H A S1 H1 where
  ext := p.ext
  grow := fun a z => .inl (p.lives.ownC A ▸ z)
  free := p.free c
  low := fun _ _ => rfl
  ph := rfl
  lives := fun n _ => p.lives n
  len := p.len
end

def SOut (s : Sit) (A : Wy) (S : Store) (H : Hp) (D : Ends) : ResS → Prop
  | .nx ρ' S' => ∀ σ' H' A', Pss s.base A S H A' S' H' → Cn s ρ' S' A' σ' H' → D.nx σ' H'
  | .bk ρ' S' => ∀ σ' H' A', Pss s.base A S H A' S' H' → Cn s ρ' S' A' σ' H' → D.bk σ' H'
  | .ct ρ' S' => ∀ σ' H' A', Pss s.base A S H A' S' H' → Cn s ρ' S' A' σ' H' → D.ct σ' H'
  | .rt d S' => ∀ v H' A', Pss s.base A S H A' S' H' → Cells s.X.K A' S' H' → RpS s.X.K s.Z A' S' H' v d → Fresh s.X.K A' S' H H' v d → D.rt v H'
  | .exc c fs ρ' S' => ∀ dd σ' H' A', Pss s.base A S H A' S' H' → Cn s ρ' S' A' σ' H' → ExAt s.X.K H' (Own A' S') c dd fs → s.W (.ref (s.cad c)) dd σ' H'
  | .bad => False
def tDs (s : Sit) (m : MS) : TS := fun D σ H => ∃ ρ S A, Cn s ρ S A σ H ∧ SOut s A S H D (m ρ S)
def SS (s : Sit) (st : Stmt) (m : MS) : Prop := PS s.X st (tDs s m)
def SSs (s : Sit) (st : List Stmt) (m : MS) : Prop := PSs s.X st (tDs s m)

section
variable {s : Sit} {ρ ρ1 : Rho} {S S1 : Store} {A A1 : Wy} {σ σ1 : St} {H H1 : Hp}
theorem PS.weak {X : Cx} {e : Stmt} {t t' : TS} (h : PS X e t) (w : ∀ D σ H, t' D σ H → t D σ H) : PS X e t' := ⟨fun pins s σ H D I q => h.run pins s σ H D I (w _ _ _ q)⟩
theorem PSs.weak {X : Cx} {e : List Stmt} {t t' : TS} (h : PSs X e t) (w : ∀ D σ H, t' D σ H → t D σ H) : PSs X e t' := ⟨fun pins s σ H D I q => h.run pins s σ H D I (w _ _ _ q)⟩
theorem SOut.on {D : Ends} {r : ResS} (p : Pss s.base A S H A1 S1 H1) (h : SOut s A S H D r) : SOut s A1 S1 H1 D r := by
  cases r with
  | nx ρ S2 => intro σ2 H2 A2 q; exact h σ2 H2 A2 (p.trans q)
  | bk ρ S2 => intro σ2 H2 A2 q; exact h σ2 H2 A2 (p.trans q)
  | ct ρ S2 => intro σ2 H2 A2 q; exact h σ2 H2 A2 (p.trans q)
  | rt d S2 => intro v H2 A2 q c r f; exact h v H2 A2 (p.trans q) c r (f.later p.free)
  | exc c fs ρ S2 => intro dd σ2 H2 A2 q; exact h dd σ2 H2 A2 (p.trans q)
  | bad => exact h
/-- a statement's part: an expression; its exception takes the slots as they stand -/
def bindE {α : Type} (r : Res α) (ρ : Rho) (k : α → Store → ResS) : ResS := match r with
  | .ok a S => k a S
  | .exc c fs S => .exc c fs ρ S
  | .bad => .bad
@[simp] theorem bindE_ok {α : Type} (a : α) (S : Store) (ρ : Rho) (k : α → Store → ResS) : bindE (Res.ok a S) ρ k = k a S := rfl
@[simp] theorem bindE_exc {α : Type} (c : Nat) (fs : List D) (S : Store) (ρ : Rho) (k : α → Store → ResS) : bindE (Res.exc c fs S : Res α) ρ k = .exc c fs ρ S := rfl
@[simp] theorem bindE_bad {α : Type} (ρ : Rho) (k : α → Store → ResS) : bindE (Res.bad : Res α) ρ k = .bad := rfl
theorem tD_bindS {m : ME} {k : D → Store → ResS} {D : Ends} {Q' : VK} (c : Cn s ρ S A σ H) (h : SOut s A S H D (bindE (m ρ S) ρ k))
    (go : ∀ d S1 v H1, m ρ S = .ok d S1 → Pst s.X.K A S H S1 H1 → Cn s ρ S1 A σ H1 → RpS s.X.K s.Z A S1 H1 v d → Fresh s.X.K A S1 H H1 v d → SOut s A S1 H1 D (k d S1) → Q' v H1) : tD s m σ H Q' := by
  refine ⟨ρ, S, A, c, ?_⟩
  cases e : m ρ S with
  | ok d S1 => intro v H1 p r f; rw [e] at h; exact go d S1 v H1 e p (c.step p) r f (SOut.on (p.pss c.cells) h)
  | exc x fs S1 => intro dd H1 p q; rw [e] at h; exact h dd σ H1 A (p.pss c.cells) (c.step p) q
  | bad => rw [e] at h; exact h
theorem tDt_bindS {m : MT} {k : Bool → Store → ResS} {D : Ends} {Q' : Bool → Hp → Prop} (c : Cn s ρ S A σ H) (h : SOut s A S H D (bindE (m ρ S) ρ k))
    (go : ∀ b S1 H1, m ρ S = .ok b S1 → Pst s.X.K A S H S1 H1 → Cn s ρ S1 A σ H1 → SOut s A S1 H1 D (k b S1) → Q' b H1) : tDt s m σ H Q' := by
  refine ⟨ρ, S, A, c, ?_⟩
  cases e : m ρ S with
  | ok d S1 => intro H1 p; rw [e] at h; exact go d S1 H1 e p (c.step p) (SOut.on (p.pss c.cells) h)
  | exc x fs S1 => intro dd H1 p q; rw [e] at h; exact h dd σ H1 A (p.pss c.cells) (c.step p) q
  | bad => rw [e] at h; exact h
theorem tDa_bindS {m : MA} {k : List D → Store → ResS} {D : Ends} {Q' : List V → Hp → Prop} (c : Cn s ρ S A σ H) (h : SOut s A S H D (bindE (m ρ S) ρ k))
    (go : ∀ ds S1 vs H1, m ρ S = .ok ds S1 → Pst s.X.K A S H S1 H1 → Cn s ρ S1 A σ H1 → RpL s.X.K s.Z A S1 H1 vs ds → SOut s A S1 H1 D (k ds S1) → Q' vs H1) : tDa s m σ H Q' := by
  refine ⟨ρ, S, A, c, ?_⟩
  cases e : m ρ S with
  | ok d S1 => intro v H1 p r; rw [e] at h; exact go d S1 v H1 e p (c.step p) r (SOut.on (p.pss c.cells) h)
  | exc x fs S1 => intro dd H1 p q; rw [e] at h; exact h dd σ H1 A (p.pss c.cells) (c.step p) q
  | bad => rw [e] at h; exact h
end

/-! ### blocks -/
/-- one behind another -/
def mSeq (m n : MS) : MS := fun ρ S => match m ρ S with
  | .nx ρ' S' => n ρ' S'
  | r => r
def mSkip : MS := fun ρ S => .nx ρ S
def mBreak : MS := fun ρ S => .bk ρ S
def mCont : MS := fun ρ S => .ct ρ S
def mRet (m : ME) : MS := fun ρ S => bindE (m ρ S) ρ fun d S1 => .rt d S1
def mRetN : MS := fun _ S => .rt .non S
def mDrop (m : ME) : MS := fun ρ S => bindE (m ρ S) ρ fun _ S1 => .nx ρ S1
def mIfS (c : MT) (m n : MS) : MS := fun ρ S => bindE (c ρ S) ρ fun b S1 => if b then m ρ S1 else n ρ S1
def mNever : MS := fun _ _ => .bad
section
variable {s : Sit} {st : Stmt} {rest : List Stmt} {m n : MS} {e : Expr} {me : ME} {pos : Pos}
theorem seq_red {D : Ends} {σ : St} {H : Hp} (q : tDs s (mSeq m n) D σ H) : tSeq (tDs s m) (tDs s n) D σ H := by
  obtain ⟨ρ, S, A, c, q⟩ := q
  refine ⟨ρ, S, A, c, ?_⟩
  unfold mSeq at q
  cases e : m ρ S with
  | nx ρ1 S1 =>
    rw [e] at q
    intro σ1 H1 A1 p c1
    exact ⟨ρ1, S1, A1, c1, SOut.on p q⟩
  | bk ρ1 S1 => rw [e] at q; exact q
  | ct ρ1 S1 => rw [e] at q; exact q
  | rt d S1 => rw [e] at q; exact q
  | exc c fs ρ1 S1 => rw [e] at q; exact q
  | bad => rw [e] at q; exact q
theorem ss_nil : SSs s [] mSkip := PSs.weak pss_nil fun D σ H q => by
  obtain ⟨ρ, S, A, c, q⟩ := q
  exact q σ H A .refl c
theorem ss_cons (h1 : SS s st m) (h2 : SSs s rest n) : SSs s (st :: rest) (mSeq m n) := PSs.weak (pss_cons h1 h2) fun _ _ _ q => seq_red q
theorem ss_one (h1 : SS s st m) : SSs s [st] m := pss_one h1
theorem s_pass : SS s (.Pass pos) mSkip := PS.weak ps_pass fun D σ H q => by
  obtain ⟨ρ, S, A, c, q⟩ := q
  exact q σ H A .refl c
theorem s_break : SS s (.Break pos) mBreak := PS.weak ps_break fun D σ H q => by
  obtain ⟨ρ, S, A, c, q⟩ := q
  exact q σ H A .refl c
theorem s_continue : SS s (.Continue pos) mCont := PS.weak ps_continue fun D σ H q => by
  obtain ⟨ρ, S, A, c, q⟩ := q
  exact q σ H A .refl c
theorem s_ret (he : SE s e me) : SS s (.Return (some e) pos) (mRet me) := PS.weak (ps_ret he) fun D σ H q => by
  obtain ⟨ρ, S, A, c, q⟩ := q
  refine ⟨ρ, S, A, c, ?_⟩
  unfold mRet at q
  cases e : me ρ S with
  | ok d S1 => rw [e] at q; intro v H1 p r f; exact q v H1 A (p.pss c.cells) p.cells r f
  | exc x fs S1 => rw [e] at q; intro dd H1 p z; exact q dd σ H1 A (p.pss c.cells) (c.step p) z
  | bad => rw [e] at q; exact q
theorem s_retN : SS s (.Return none pos) mRetN := PS.weak ps_retN fun D σ H q => by
  obtain ⟨ρ, S, A, c, q⟩ := q
  exact q .non H A .refl c.cells (.inr (.inl .non)) (.old rfl)
theorem s_expr (he : SE s e me) (hs : swapsWith e none pos.line s.X.env = pure false := by rfl) : SS s (.Expr e pos) (mDrop me) := PS.weak (ps_expr he hs) fun D σ H q => by
  obtain ⟨ρ, S, A, c, q⟩ := q
  exact tD_bindS c q fun d S1 v H1 _ p1 c1 r1 f1 q1 => q1 σ H1 A .refl c1
theorem s_if {c : Expr} {a b : List Stmt} {mc : MT} (hc : ST s c mc) (ha : SSs s a m) (hb : SSs s b n) : SS s (.If c a b pos) (mIfS mc m n) := PS.weak (ps_if hc ha hb) fun D σ H q => by
  obtain ⟨ρ, S, A, c, q⟩ := q
  refine tDt_bindS c q fun k S1 H1 _ p1 c1 q1 => ?_
  cases k with
  | true => exact iteT ⟨ρ, S1, A, c1, q1⟩
  | false => exact iteF ⟨ρ, S1, A, c1, q1⟩
theorem s_never : SS s st mNever := PS.weak ps_never fun D σ H q => by
  obtain ⟨ρ, S, A, c, q⟩ := q
  exact q.elim
theorem ss_never {sts : List Stmt} : SSs s sts mNever := PSs.weak pss_never fun D σ H q => by
  obtain ⟨ρ, S, A, c, q⟩ := q
  exact q.elim
end

/-! ### stores at names -/
/-- a name's slot holds a value -/
def holdV (base : Nat) (i : Nat) (d : D) (ρ : Rho) (S : Store) : ResS := match d with
  | .loc n => if n < base then .nx (ρ.set i (some (.loc n))) S else .bad
  | .err _ _ => .bad
  | d => .nx (ρ.set i (some (cool d))) S
/-- a name's slot has a list of its own -/
def holdO (base : Nat) (i : Nat) (d : D) (ρ : Rho) (S : Store) : ResS := if isNew d && decide (i < ρ.length) then .nx (ρ.set i (some (.loc (base + i)))) (S.set (base + i) (some d)) else .bad
def mSetV (base i : Nat) (m : ME) : MS := fun ρ S => bindE (m ρ S) ρ fun d S1 => holdV base i d ρ S1
def mSetO (base i : Nat) (m : ME) : MS := fun ρ S => bindE (m ρ S) ρ fun d S1 => holdO base i d ρ S1

section
variable {s : Sit} {ρ : Rho} {S S1 : Store} {A : Wy} {σ : St} {H H1 : Hp}
theorem Cn.setv {i : Nat} {v : V} {d : D} (c : Cn s ρ S A σ H) (r : RpS s.X.K s.Z A S H v d) (h : ∀ n, d = .loc n → n < s.base ∨ n = s.base + i) : Cn s (ρ.set i (some d)) S A (σ.set i (some v)) H := by
  refine ⟨fun j e he => ?_, c.cells, fun j n he => ?_, by simp [c.len], by simpa using c.room⟩
  · rw [List.getElem?_set] at he
    split at he
    · rename_i hij
      subst hij
      split at he
      · rename_i hl
        cases he
        exact ⟨v, by rw [List.getElem?_set_self (by rw [c.len]; exact hl)], r⟩
      · cases he
    · rename_i hij
      obtain ⟨w, h1, h2⟩ := c.slot j e he
      exact ⟨w, by rw [List.getElem?_set_ne hij]; exact h1, h2⟩
  · rw [List.getElem?_set] at he
    split at he
    · rename_i hij
      subst hij
      split at he
      · cases he
        exact h n rfl
      · cases he
    · exact c.disc j n he
theorem RpS.cool {v : V} {d : D} (r : RpS s.X.K s.Z A S H v d) (h : Dv.plain d = true) : RpS s.X.K s.Z A S H v (Dv.cool d) := .inr (.inl (r.plain h).cool)
theorem cool_loc {d : D} {n : Nat} (h : plain d = true) : Dv.cool d ≠ .loc n := by
  cases d <;> first | (cases h; done) | (intro z; cases z)
theorem holdV_plain {base i : Nat} {d : D} (h : plain d = true) : holdV base i d ρ S = .nx (ρ.set i (some (Dv.cool d))) S := by
  cases d <;> first | rfl | (cases h; done)
/-- a value is stored -/
theorem holdV_go {i : Nat} {v : V} {d : D} {Q : Ends} (c : Cn s ρ S A σ H) (r : RpS s.X.K s.Z A S H v d) (q : SOut s A S H Q (holdV s.base i d ρ S)) : Q.nx (σ.set i (some v)) H := by
  by_cases hp : plain d = true
  · rw [holdV_plain hp] at q
    exact q _ H A .refl (c.setv (r.cool hp) fun n z => absurd z (cool_loc hp))
  · cases d with
    | loc n =>
      unfold holdV at q
      dsimp only at q
      split at q
      · exact q _ H A .refl (c.setv r fun m z => by cases z; exact .inl ‹_›)
      · exact q.elim
    | err _ _ => exact q.elim
    | _ => exact absurd rfl hp
theorem Cell.own {K : PySem.W.Frag} {O O' : Ow} {H : Hp} {a : Addr} {d : D} (ow : Owns H O) (g : ∀ x, O' x → O x) (c : Cell K H O a d) : Cell K H O' a d :=
  c.ext ow (.refl _ _) (fun x z => .inl (g x z)) fun _ h => h
theorem Rp.own {K : PySem.W.Frag} {O O' : Ow} {H : Hp} {v : V} {d : D} (ow : Owns H O) (g : ∀ x, O' x → O x) (c : Rp K H O v d) : Rp K H O' v d := c.ext ow (.refl _ _) fun x z => .inl (g x z)
/-- a list that nobody holds is the slot's own: from the state ahead (H) of the expression that made it -/
theorem holdO_go {i : Nat} {v : V} {d : D} {Q : Ends} (c : Cn s ρ S A σ H) (p : Pst s.X.K A S H S1 H1) (r : RpS s.X.K s.Z A S1 H1 v d) (f : Fresh s.X.K A S1 H H1 v d) (q : SOut s A S H Q (holdO s.base i d ρ S1)) : Q.nx (σ.set i (some v)) H1 := by
  unfold holdO at q
  split at q
  · rename_i hn
    simp only [Bool.and_eq_true, decide_eq_true_eq] at hn
    obtain ⟨hn, hi⟩ := hn
    obtain ⟨a, rfl, ha, ca, fc⟩ := f hn
    -- the cell's content
    have r0 : Rp s.X.K H1 (Own A S1) (.ref a) d := r.rp (fun n z => by subst z; cases hn) fun c fs z => by subst z; cases hn
    have na : ¬ Own A S1 a := fun z => by
      rw [p.own] at z
      obtain ⟨o, q, _⟩ := c.cells.owns a z
      rw [ha] at q; cases q
    have room : s.base + i < S1.length := by rw [p.len]; have := c.room; omega
    let A' : Wy := ⟨fun n => if n = s.base + i then a else A.loc n, A.ph⟩
    let S' : Store := S1.set (s.base + i) (some d)
    have gS : ∀ (n : Nat) (e : D), S'[n]? = some (some e) → (n = s.base + i ∧ e = d) ∨ (n ≠ s.base + i ∧ S1[n]? = some (some e)) := fun n e h => by
      have h : (S1.set (s.base + i) (some d))[n]? = some (some e) := h
      rw [List.getElem?_set] at h
      split at h
      · rename_i z
        cases h; exact .inl ⟨z.symm, rfl⟩
      · rename_i z; exact .inr ⟨fun y => z y.symm, h⟩
    have own0 : ∀ x, OwC A' S' x → x = a ∨ OwC A S1 x := by
      rintro x ⟨n, e, h, rfl⟩
      rcases gS n e h with ⟨h1, h2⟩ | ⟨h1, h2⟩
      · exact .inl (if_pos h1)
      · refine .inr ⟨n, e, h2, ?_⟩
        exact (if_neg h1).symm
    have own' : ∀ x, Own A' S' x → x = a ∨ Own A S1 x := by
      rintro x (z | z)
      · exact (own0 x z).imp id .inl
      · exact .inr (.inr z)
    have ow1 : Owns H1 (fun x => Own A S1 x ∨ x = a) := fun x z => by
      rcases z with z | z
      · exact p.cells.owns x z
      · subst z
        cases d with
        | lst _ xs => cases r0 with | lst _ h _ => exact ⟨_, h, rfl⟩
        | dct _ _ => cases r0 with | dct _ h _ => exact ⟨_, h, rfl⟩
        | _ => cases hn
    have gr : Grow H (Own A S) (Own A' S') := fun x z => by
      rcases own' x z with e | e
      · exact .inr (by rw [e]; exact ha)
      · exact .inl (p.own ▸ e)
    have gr0 : Grow H (OwC A S) (OwC A' S') := fun x z => by
      rcases own0 x z with e | e
      · exact .inr (by rw [e]; exact ha)
      · exact .inl (p.lives.ownC A ▸ e)
    have rv : ∀ {w : V} {e : D}, Rp s.X.K H (Own A S) w e → Rp s.X.K H1 (Own A' S') w e := fun h => h.ext c.cells.owns p.ext.own gr
    have rc : Cell s.X.K H1 (Own A' S') a d := ca.own ow1 fun x z => (own' x z).symm.imp id id
    refine q _ H1 A' ⟨p.ext, gr0, p.free c.cells, fun n hn => if_neg (by omega), rfl, fun n hn => ?_, ?_⟩ ⟨fun j e he => ?_, ⟨fun n e h => ?_, fun n m e e' h h' z => ?_, p.cells.phs, fun x hx z => ?_⟩, fun j n he => ?_, by simp [c.len], ?_⟩
    · show ((S1.set (s.base + i) (some d))[n]?.join).isSome = _
      rw [List.getElem?_set_ne (by omega)]
      exact p.lives n
    · show (S1.set _ _).length = _
      rw [List.length_set]; exact p.len
    · rw [List.getElem?_set] at he
      split at he
      · rename_i hij
        subst hij
        · cases he
          refine ⟨.ref a, by rw [List.getElem?_set_self (by rw [c.len]; exact hi)], .inl ⟨_, d, rfl, ?_, ?_⟩⟩
          · show V.ref a = V.ref (if s.base + i = s.base + i then a else A.loc _)
            rw [if_pos rfl]
          · show (S1.set (s.base + i) (some d))[s.base + i]? = _
            rw [List.getElem?_set_self room]
      · rename_i hij
        obtain ⟨w, h1, h2⟩ := c.slot j e he
        refine ⟨w, by rw [List.getElem?_set_ne hij]; exact h1, ?_⟩
        rcases h2 with ⟨n, x, h3, h4, h5⟩ | h2 | ⟨k, fs, dd, h3, h4, h5⟩
        · obtain ⟨x', h6⟩ := p.lives.get h5
          have hne : n ≠ s.base + i := by
            rcases c.disc j n (h3 ▸ he) with z | z
            · omega
            · intro y; apply hij; omega
          refine .inl ⟨n, x', h3, ?_, ?_⟩
          · rw [h4]; show V.ref (A.loc n) = V.ref (if n = s.base + i then a else A.loc n); rw [if_neg hne]
          · show (S1.set (s.base + i) (some d))[n]? = _
            rw [List.getElem?_set_ne (Ne.symm hne)]; exact h6
        · exact .inr (.inl (rv h2))
        · exact .inr (.inr ⟨k, fs, dd, h3, h4, h5.ext c.cells.owns p.ext.own gr⟩)
    · rcases gS n e h with ⟨h1, h2⟩ | ⟨h1, h2⟩
      · subst h1 h2
        show Cell _ _ _ (if s.base + i = s.base + i then a else A.loc _) _
        rw [if_pos rfl]
        exact rc
      · show Cell _ _ _ (if n = s.base + i then a else A.loc n) _
        rw [if_neg h1]
        exact (fc n e h2).own ow1 fun x z => (own' x z).symm.imp id id
    · rcases gS n e h with ⟨h1, h2⟩ | ⟨h1, h2⟩
      · rcases gS m e' h' with ⟨h3, h4⟩ | ⟨h3, h4⟩
        · omega
        · exfalso
          have z : (if n = s.base + i then a else A.loc n) = (if m = s.base + i then a else A.loc m) := z
          rw [if_pos h1, if_neg h3] at z
          exact na (.inl ⟨m, e', h4, z.symm⟩)
      · rcases gS m e' h' with ⟨h3, h4⟩ | ⟨h3, h4⟩
        · exfalso
          have z : (if n = s.base + i then a else A.loc n) = (if m = s.base + i then a else A.loc m) := z
          rw [if_neg h1, if_pos h3] at z
          exact na (.inl ⟨n, e, h2, z⟩)
        · have z : (if n = s.base + i then a else A.loc n) = (if m = s.base + i then a else A.loc m) := z
          rw [if_neg h1, if_neg h3] at z
          exact p.cells.inj n m e e' h2 h4 z
    · rcases own0 x z with e | e
      · subst e
        exact na (.inr hx)
      · exact p.cells.apart x hx e
    · rw [List.getElem?_set] at he
      split at he
      · rename_i hij
        subst hij
        cases he
        exact .inr rfl
      · exact c.disc j n he
    · show s.base + (ρ.set i _).length ≤ (S1.set _ _).length
      rw [List.length_set, List.length_set, p.len]
      exact c.room
  · exact q.elim
end
end Dv

set_option maxHeartbeats 4000000
namespace Dv
open PySem PySem.Spec PyProof.Rows L2
set_option autoImplicit false

/-! ### targets: names, tuples of them -/
abbrev Tg := D → Rho → Option Rho
abbrev Tgs := List D → Rho → Option Rho
/-- only the slots vs are touched -/
def Touch (vs : List Nat) (σ σ' : St) : Prop := σ'.length = σ.length ∧ ∀ j, j ∉ vs → σ'[j]? = σ[j]?
theorem Touch.refl (vs : List Nat) (σ : St) : Touch vs σ σ := ⟨rfl, fun _ _ => rfl⟩
theorem Touch.trans {vs : List Nat} {σ σ1 σ2 : St} (a : Touch vs σ σ1) (b : Touch vs σ1 σ2) : Touch vs σ σ2 := ⟨b.1.trans a.1, fun j h => (b.2 j h).trans (a.2 j h)⟩
def tDg (s : Sit) (vs : List Nat) (t : Tg) : TG := fun v σ H Q => ∃ ρ S A d ρ', Cn s ρ S A σ H ∧ Rp s.X.K H (Own A S) v d ∧ t d ρ = some ρ' ∧ ∀ σ', Touch vs σ σ' → Cn s ρ' S A σ' H → Q σ' H
def tDgs (s : Sit) (vs : List Nat) (t : Tgs) : TGs := fun xs σ H Q => ∃ ρ S A ds ρ', Cn s ρ S A σ H ∧ RpAll s.X.K H (Own A S) xs ds ∧ t ds ρ = some ρ' ∧ ∀ σ', Touch vs σ σ' → Cn s ρ' S A σ' H → Q σ' H
def SG (s : Sit) (tg : Expr) (vs : List Nat) (t : Tg) : Prop := PG s.X tg (tDg s vs t)
def SGs (s : Sit) (ts : List Expr) (vs : List Nat) (t : Tgs) : Prop := PGs s.X ts (tDgs s vs t)
def gN (i : Nat) : Tg := fun d ρ => if plain d then some (ρ.set i (some (cool d))) else none
def gT (t : Tgs) : Tg := fun d ρ => match d with
  | .tup xs => t xs ρ
  | _ => none
def gs0 : Tgs := fun ds ρ => match ds with
  | [] => some ρ
  | _ => none
def gsC (t : Tg) (u : Tgs) : Tgs := fun ds ρ => match ds with
  | d :: ds => (t d ρ).bind fun ρ1 => u ds ρ1
  | [] => none
section
variable {s : Sit} {pos : Pos} {vs : List Nat}
theorem PG.weak {X : Cx} {e : Expr} {t t' : TG} (h : PG X e t) (w : ∀ v σ H Q, t' v σ H Q → t v σ H Q) : PG X e t' := ⟨fun pins s σ H v u Q I r q => h.run pins s σ H v u Q I r (w _ _ _ _ q)⟩
theorem PGs.weak {X : Cx} {e : List Expr} {t t' : TGs} (h : PGs X e t) (w : ∀ v σ H Q, t' v σ H Q → t v σ H Q) : PGs X e t' := ⟨fun pins s σ H v u Q I r q => h.run pins s σ H v u Q I r (w _ _ _ _ q)⟩
theorem sg_name {i : Nat} {x : Str} (hN : s.X.N.Nodup) (hi : s.X.N[i]? = some x) (hx : Loc s.X.env.scope x) (hv : i ∈ vs) (hf : s.X.fn x = true ∨ s.X.env.scope.names.lookup x = some .local := by first | exact .inl rfl | exact .inr rfl | assumption) : SG s (.Name x pos) vs (gN i) := by
  refine PG.weak (pg_name hN hi hx hf) fun v σ H Q q => ?_
  obtain ⟨ρ, S, A, d, ρ', c, r, h, q⟩ := q
  unfold gN at h
  split at h
  · rename_i hp
    cases h
    refine q _ ⟨by simp, fun j hj => ?_⟩ (c.setv (.inr (.inl r.cool)) fun n z => absurd z (cool_loc hp))
    rw [List.getElem?_set_ne]
    intro z; subst z; exact hj hv
  · cases h
theorem sgs_nil : SGs s [] vs gs0 := by
  refine PGs.weak pgs_nil fun xs σ H Q q => ?_
  obtain ⟨ρ, S, A, ds, ρ', c, r, h, q⟩ := q
  cases ds with
  | nil => cases r; cases h; exact ⟨rfl, q σ (.refl _ _) c⟩
  | cons _ _ => cases h
theorem sgs_cons {e : Expr} {es : List Expr} {t : Tg} {u : Tgs} (h1 : SG s e vs t) (h2 : SGs s es vs u)
    (hs : (assignEach (e :: es) s.X.env).map (·.2) = assign e s.X.env :: (assignEach es s.X.env).map (·.2) := by rfl) : SGs s (e :: es) vs (gsC t u) := by
  refine PGs.weak (pgs_cons h1 h2 hs) fun xs σ H Q q => ?_
  obtain ⟨ρ, S, A, ds, ρ', c, r, h, q⟩ := q
  cases ds with
  | nil => cases h
  | cons d ds =>
    cases r with
    | cons r rs =>
      obtain ⟨ρ1, e1, e2⟩ := Option.bind_eq_some_iff.mp (show (t d ρ).bind (fun ρ1 => u ds ρ1) = some ρ' from h)
      exact ⟨_, _, rfl, ρ, S, A, d, ρ1, c, r, e1, fun σ1 t1 c1 => ⟨ρ1, S, A, ds, ρ', c1, rs, e2, fun σ2 t2 c2 => q σ2 (t1.trans t2) c2⟩⟩
theorem sg_tup {es : List Expr} {k : Nat} {t : Tgs} {n : Nat} (hc : s.X.calm = true) (h : SGs s es vs t)
    (hn : (assignEach es s.X.env).length = n := by rfl) (hst : (assignEach es s.X.env).findIdx? (·.1) = none := by rfl) (ht : ∀ ds ρ ρ', t ds ρ = some ρ' → ds.length = n) : SG s (.Tuple es k pos) vs (gT t) := by
  refine PG.weak (pg_tup hc h hn hst) fun v σ H Q q => ?_
  obtain ⟨ρ, S, A, d, ρ', c, r, h, q⟩ := q
  cases r with
  | tup ha ra => exact ⟨_, _, rfl, ha, by rw [ra.length]; exact ht _ _ _ h, ρ, S, A, _, ρ', c, ra, h, q⟩
  | _ => cases h
theorem gs0_len : ∀ ds ρ ρ', gs0 ds ρ = some ρ' → ds.length = 0 := fun ds ρ ρ' h => by
  cases ds with
  | nil => rfl
  | cons _ _ => cases h
theorem gsC_len {t : Tg} {u : Tgs} {n : Nat} (hu : ∀ ds ρ ρ', u ds ρ = some ρ' → ds.length = n) : ∀ ds ρ ρ', gsC t u ds ρ = some ρ' → ds.length = n + 1 := fun ds ρ ρ' h => by
  cases ds with
  | nil => cases h
  | cons d ds =>
    obtain ⟨ρ1, e1, e2⟩ := Option.bind_eq_some_iff.mp (show (t d ρ).bind (fun ρ1 => u ds ρ1) = some ρ' from h)
    rw [List.length_cons, hu _ _ _ e2]
end

/-! ### what is walked -/
/-- the iterator J yields just the items ds, at every later state -/
def ItOk (s : Sit) (A : Wy) (S : Store) (H : Hp) (J : It) (ds : List D) : Prop :=
  ∀ A' S' H', Ext (Own A S) H H' → Grow H (Own A S) (Own A' S') → Cells s.X.K A' S' H' →
    (∀ (i : Nat) (d : D), ds[i]? = some d → J.go i H' ∧ ∀ x H'', J.yld i H' x H'' → Same H' H'' ∧ Rp s.X.K H'' (Own A' S') x d) ∧ J.stop ds.length H'
abbrev Src := Rho → Store → Res (List D)
def IOut (s : Sit) (A : Wy) (S : Store) (H : Hp) (σ : St) (R : It → Hp → Prop) : Res (List D) → Prop
  | .ok ds S' => ∀ J H', Pst s.X.K A S H S' H' → ItOk s A S' H' J ds → R J H'
  | .exc c fs S' => ∀ dd H', Pst s.X.K A S H S' H' → ExAt s.X.K H' (Own A S') c dd fs → s.W (.ref (s.cad c)) dd σ H'
  | .bad => False
def tDi (s : Sit) (m : Src) : TI := fun σ H R => ∃ ρ S A, Cn s ρ S A σ H ∧ IOut s A S H σ R (m ρ S)
def SI (s : Sit) (tg iter : Expr) (m : Src) : Prop := PI s.X tg iter (tDi s m)
section
variable {s : Sit} {ρ : Rho} {S S1 : Store} {A : Wy} {σ : St} {H H1 : Hp}
theorem PI.weak {X : Cx} {tg e : Expr} {t t' : TI} (h : PI X tg e t) (w : ∀ σ H Q, t' σ H Q → t σ H Q) : PI X tg e t' := ⟨fun pins s σ H Q I q => h.run pins s σ H Q I (w _ _ _ q)⟩
theorem IOut.on {Q : It → Hp → Prop} {r : Res (List D)} (p : Pst s.X.K A S H S1 H1) (h : IOut s A S H σ Q r) : IOut s A S1 H1 σ Q r := by
  cases r with
  | ok d S2 => intro v H2 p2 r2; exact h v H2 (p.trans p2) r2
  | exc x fs S2 => intro dd H2 p2 q; exact h dd H2 (p.trans p2) q
  | bad => exact h
theorem tD_bindI {m : ME} {k : D → Store → Res (List D)} {Q : It → Hp → Prop} {Q' : VK} (c : Cn s ρ S A σ H) (h : IOut s A S H σ Q ((m ρ S).bind k))
    (go : ∀ d S1 v H1, m ρ S = .ok d S1 → Pst s.X.K A S H S1 H1 → Cn s ρ S1 A σ H1 → RpS s.X.K s.Z A S1 H1 v d → IOut s A S1 H1 σ Q (k d S1) → Q' v H1) : tD s m σ H Q' := by
  refine ⟨ρ, S, A, c, ?_⟩
  cases e : m ρ S with
  | ok d S1 => intro v H1 p r f; rw [e] at h; exact go d S1 v H1 e p (c.step p) r (IOut.on p h)
  | exc x fs S1 => intro dd H1 p q; rw [e] at h; exact h dd H1 p q
  | bad => rw [e] at h; exact h
theorem tDa_bindI {m : MA} {k : List D → Store → Res (List D)} {Q : It → Hp → Prop} {Q' : List V → Hp → Prop} (c : Cn s ρ S A σ H) (h : IOut s A S H σ Q ((m ρ S).bind k))
    (go : ∀ ds S1 vs H1, m ρ S = .ok ds S1 → Pst s.X.K A S H S1 H1 → Cn s ρ S1 A σ H1 → RpL s.X.K s.Z A S1 H1 vs ds → IOut s A S1 H1 σ Q (k ds S1) → Q' vs H1) : tDa s m σ H Q' := by
  refine ⟨ρ, S, A, c, ?_⟩
  cases e : m ρ S with
  | ok d S1 => intro v H1 p r; rw [e] at h; exact go d S1 v H1 e p (c.step p) r (IOut.on p h)
  | exc x fs S1 => intro dd H1 p q; rw [e] at h; exact h dd H1 p q
  | bad => rw [e] at h; exact h
/-- items of a list that stays, or of a tuple -/
theorem SqL.rdext {K : PySem.W.Frag} {H H' : Hp} {O : Ow} {a : Addr} {xs : List V} {f : Bool} {ds : List D} (ow : Owns H O) (e : Ext O H H') (r : Rp K H O (.ref a) (.lst f ds)) (h : H a = some (.lst xs)) : SqL K H' a xs := by
  cases r with
  | lst n h' _ => exact .of (e _ _ h n)
/-- a value whose items are walked: a list or a tuple that nobody changes -/
def vals : D → Option (List D)
  | .lst _ xs => some xs
  | .rol xs => some xs
  | _ => none
theorem list_later {v : V} {d : D} {ds : List D} (c : Cells s.X.K A S H) (r : Rp s.X.K H (Own A S) v d) (h : vals d = some ds) : ∃ a xs, v = .ref a ∧ SqL s.X.K H a xs ∧ xs.length = ds.length ∧
    ∀ A' S' H', Ext (Own A S) H H' → Grow H (Own A S) (Own A' S') → SqL s.X.K H' a xs ∧ RpAll s.X.K H' (Own A' S') xs ds := by
  cases r with
  | lst n h' ra => cases h; exact ⟨_, _, rfl, .of h', ra.length, fun A' S' H' e g => ⟨.of (e _ _ h' n), ra.ext c.owns e g⟩⟩
  | rol h' ra => cases h; exact ⟨_, _, rfl, h'.seq, ra.length, fun A' S' H' e g => ⟨(h'.ext c.owns e).seq, ra.ext c.owns e g⟩⟩
  | _ => cases h
theorem tup_later {v : V} {ds : List D} (c : Cells s.X.K A S H) (r : Rp s.X.K H (Own A S) v (.tup ds)) : ∃ a xs, v = .ref a ∧ SqT s.X.K H a xs ∧ xs.length = ds.length ∧
    ∀ A' S' H', Ext (Own A S) H H' → Grow H (Own A S) (Own A' S') → SqT s.X.K H' a xs ∧ RpAll s.X.K H' (Own A' S') xs ds := by
  cases r with
  | tup h' ra => exact ⟨_, _, rfl, h', ra.length, fun A' S' H' e g => ⟨SqT.ext c.owns e h', ra.ext c.owns e g⟩⟩
end

/-- for x in e, e a list -/
def srL (m : ME) : Src := fun ρ S => (m ρ S).bind fun d S1 => match d with
  | .lst _ xs => .ok xs S1
  | .rol xs => .ok xs S1
  | _ => .bad
/-- for x in e, e a tuple -/
def srT (m : ME) : Src := fun ρ S => (m ρ S).bind fun d S1 => match d with
  | .tup xs => .ok xs S1
  | _ => .bad
def enumFrom (k : Nat) : List D → List D
  | [] => []
  | d :: ds => .tup [.int (k : Nat), d] :: enumFrom (k + 1) ds
def zipD : List D → List D → List D
  | x :: xs, y :: ys => .tup [x, y] :: zipD xs ys
  | _, _ => []
theorem enumFrom_get : ∀ (ds : List D) (k i : Nat) (x : D), (enumFrom k ds)[i]? = some x → ∃ d, ds[i]? = some d ∧ x = .tup [.int ((k + i : Nat) : Int), d]
  | [], _, _, _, h => by simp [enumFrom] at h
  | d :: ds, k, 0, x, h => by simp [enumFrom] at h; exact ⟨d, rfl, h.symm⟩
  | d :: ds, k, i + 1, x, h => by
    obtain ⟨e, h1, h2⟩ := enumFrom_get ds (k + 1) i x (by simpa [enumFrom] using h)
    exact ⟨e, by simpa using h1, by rw [h2, Nat.add_right_comm, Nat.add_assoc]⟩
theorem enumFrom_len : ∀ (ds : List D) (k : Nat), (enumFrom k ds).length = ds.length
  | [], _ => rfl
  | d :: ds, k => by simp [enumFrom, enumFrom_len ds]
theorem zipD_get : ∀ (xs ys : List D) (i : Nat) (z : D), (zipD xs ys)[i]? = some z → ∃ x y, xs[i]? = some x ∧ ys[i]? = some y ∧ z = .tup [x, y]
  | [], _, _, _, h => by simp [zipD] at h
  | _ :: _, [], _, _, h => by simp [zipD] at h
  | x :: xs, y :: ys, 0, z, h => by simp [zipD] at h; exact ⟨x, y, rfl, rfl, h.symm⟩
  | x :: xs, y :: ys, i + 1, z, h => by
    obtain ⟨a, b, h1, h2, h3⟩ := zipD_get xs ys i z (by simpa [zipD] using h)
    exact ⟨a, b, by simpa using h1, by simpa using h2, h3⟩
theorem zipD_len : ∀ (xs ys : List D), (zipD xs ys).length = min xs.length ys.length
  | [], _ => by simp [zipD]
  | _ :: _, [] => by simp [zipD]
  | x :: xs, y :: ys => by simp [zipD, zipD_len xs ys, Nat.succ_min_succ]
/-- enumerate(e), zip(e, f) -/
def srE (n : MA) : Src := fun ρ S => (n ρ S).bind fun ds S1 => match ds with
  | [.lst _ xs] => .ok (enumFrom 0 xs) S1
  | [.rol xs] => .ok (enumFrom 0 xs) S1
  | _ => .bad
def srZ (n : MA) : Src := fun ρ S => (n ρ S).bind fun ds S1 => match ds with
  | [.lst _ xs, .lst _ ys] => .ok (zipD xs ys) S1
  | [.tup xs, .tup ys] => .ok (zipD xs ys) S1
  | _ => .bad
def rngD (lo : Int) : Nat → List D
  | 0 => []
  | n + 1 => .int lo :: rngD (lo + 1) n
theorem rngD_get : ∀ (n : Nat) (lo : Int) (i : Nat) (x : D), (rngD lo n)[i]? = some x → i < n ∧ x = .int (lo + (i : Nat))
  | 0, _, _, _, h => by simp [rngD] at h
  | n + 1, lo, 0, x, h => by simp [rngD] at h; exact ⟨by omega, by rw [← h]; simp⟩
  | n + 1, lo, i + 1, x, h => by
    obtain ⟨h1, h2⟩ := rngD_get n (lo + 1) i x (by simpa [rngD] using h)
    exact ⟨by omega, by rw [h2]; congr 1; omega⟩
theorem rngD_len : ∀ (n : Nat) (lo : Int), (rngD lo n).length = n
  | 0, _ => rfl
  | n + 1, lo => by simp [rngD, rngD_len n]
/-- range(n), range(a, b), range(a, b, -1) -/
def srR1 (n : MA) : Src := fun ρ S => (n ρ S).bind fun ds S1 => match ds with
  | [.int j] => if j ≤ 16777216 ∧ -16777216 ≤ j then .ok (rngD 0 j.toNat) S1 else .bad
  | _ => .bad
def srR2 (n : MA) : Src := fun ρ S => (n ρ S).bind fun ds S1 => match ds with
  | [.int i, .int j] => if j ≤ 16777216 ∧ -16777216 ≤ j ∧ i ≤ 16777216 ∧ -16777216 ≤ i then .ok (rngD i (j - i).toNat) S1 else .bad
  | _ => .bad
section
variable {s : Sit} {tg e : Expr} {m : ME}
theorem si_list (he : SE s e m) : SI s tg e (srL m) := by
  refine PI.weak (pi_list he) fun σ H R q => ?_
  obtain ⟨ρ, S, A, c, q⟩ := q
  refine tD_bindI c q fun d S1 v H1 _ p1 c1 r1 q1 => ?_
  have key : ∀ ds, vals d = some ds → IOut s A S1 H1 σ R (.ok ds S1) → ∃ a, v = .ref a ∧ (∃ xs, SqL s.X.K H1 a xs) ∧ R (Itl s.X.K a) H1 := fun ds hv q1 => by
    have r2 : Rp s.X.K H1 (Own A S1) v d := r1.rp (fun n z => by subst z; cases hv) fun c fs z => by subst z; cases hv
    obtain ⟨a, xs, rfl, hs, hl, later⟩ := list_later c1.cells r2 hv
    refine ⟨a, rfl, ⟨xs, hs⟩, q1 _ H1 (.refl c1.cells) fun A' S' H' e g c' => ⟨fun i d hd => ?_, ?_⟩⟩
    · obtain ⟨l1, l2⟩ := later A' S' H' e g
      obtain ⟨x, hx, rx⟩ := l2.get hd
      refine ⟨⟨xs, x, l1, hx⟩, fun y H'' hy => ?_⟩
      obtain ⟨rfl, hy⟩ := hy
      have := hy xs l1
      rw [hx] at this; cases this
      exact ⟨.refl _, rx⟩
    · obtain ⟨l1, l2⟩ := later A' S' H' e g
      exact ⟨xs, l1, by omega⟩
  cases d with
  | lst f ds => exact key ds rfl q1
  | rol ds => exact key ds rfl q1
  | _ => exact q1.elim
theorem si_tup (he : SE s e m) : SI s tg e (srT m) := by
  refine PI.weak (pi_tup he) fun σ H R q => ?_
  obtain ⟨ρ, S, A, c, q⟩ := q
  refine tD_bindI c q fun d S1 v H1 _ p1 c1 r1 q1 => ?_
  cases d with
  | tup ds =>
    have r2 : Rp s.X.K H1 (Own A S1) v (.tup ds) := r1.rp (fun n z => nomatch z) fun c fs z => nomatch z
    obtain ⟨a, xs, rfl, hs, hl, later⟩ := tup_later c1.cells r2
    refine ⟨a, rfl, ⟨xs, hs⟩, q1 _ H1 (.refl c1.cells) fun A' S' H' e g c' => ⟨fun i d hd => ?_, ?_⟩⟩
    · obtain ⟨l1, l2⟩ := later A' S' H' e g
      obtain ⟨x, hx, rx⟩ := l2.get hd
      refine ⟨⟨xs, x, l1, hx⟩, fun y H'' hy => ?_⟩
      obtain ⟨rfl, hy⟩ := hy
      have := hy xs l1
      rw [hx] at this; cases this
      exact ⟨.refl _, rx⟩
    · obtain ⟨l1, l2⟩ := later A' S' H' e g
      exact ⟨xs, l1, by omega⟩
  | _ => exact q1.elim
theorem rng_ok {A : Wy} {S : Store} {H : Hp} (lo : Int) (n : Nat) : ItOk s A S H (Itr lo n) (rngD lo n) := fun A' S' H' _ _ c' =>
  ⟨fun i d hd => by
    obtain ⟨h1, rfl⟩ := rngD_get n lo i d hd
    refine ⟨h1, fun x H'' hy => ?_⟩
    obtain ⟨rfl, rfl⟩ := hy
    exact ⟨.refl _, .int _⟩, by rw [rngD_len]; exact Nat.le_refl _⟩
theorem RpL.int1 {K : PySem.W.Frag} {Z : ZT} {A : Wy} {S : Store} {H : Hp} {vs : List V} {j : Int} (r : RpL K Z A S H vs [.int j]) : vs = [.int j] := by
  cases r with
  | cons r t =>
    cases t
    rcases r with ⟨_, _, z, _⟩ | r | ⟨_, _, _, z, _⟩
    · cases z
    · cases r; rfl
    · cases z
theorem RpL.int2 {K : PySem.W.Frag} {Z : ZT} {A : Wy} {S : Store} {H : Hp} {vs : List V} {i j : Int} (r : RpL K Z A S H vs [.int i, .int j]) : vs = [.int i, .int j] := by
  cases r with
  | cons r t =>
    rw [t.int1]
    rcases r with ⟨_, _, z, _⟩ | r | ⟨_, _, _, z, _⟩
    · cases z
    · cases r; rfl
    · cases z
theorem si_range1 {a : Expr} {n : MA} {p pos : Pos} (hg : Gl s.X "range") (hm : s.X.mg "range" = none) (ha : SA s [a] n) (hs : starEach [a] s.X.env = [(false, eval a s.X.env)] := by rfl) : SI s tg (.Call (.Name "range" p) [a] [] pos) (srR1 n) := by
  refine PI.weak (pi_range1 hg hm ha hs) fun σ H R q => ?_
  obtain ⟨ρ, S, A, c, q⟩ := q
  refine tDa_bindI c q fun ds S1 vs H1 em p1 c1 r1 q1 => ?_
  split at q1
  · rename_i j
    split at q1
    · rename_i hj
      exact ⟨j, r1.int1, by omega, by omega, q1 _ H1 (.refl c1.cells) (rng_ok 0 _)⟩
    · exact q1.elim
  · exact q1.elim
theorem si_range2 {a b : Expr} {n : MA} {p pos : Pos} (hg : Gl s.X "range") (hm : s.X.mg "range" = none) (ha : SA s [a, b] n) (hs : starEach [a, b] s.X.env = [(false, eval a s.X.env), (false, eval b s.X.env)] := by rfl) (hs2 : starEach [b] s.X.env = [(false, eval b s.X.env)] := by rfl) :
    SI s tg (.Call (.Name "range" p) [a, b] [] pos) (srR2 n) := by
  refine PI.weak (pi_range2 hg hm ha hs hs2) fun σ H R q => ?_
  obtain ⟨ρ, S, A, c, q⟩ := q
  refine tDa_bindI c q fun ds S1 vs H1 em p1 c1 r1 q1 => ?_
  split at q1
  · rename_i i j
    split at q1
    · rename_i hj
      exact ⟨i, j, r1.int2, ⟨by omega, by omega, by omega, by omega⟩, q1 _ H1 (.refl c1.cells) (rng_ok i _)⟩
    · exact q1.elim
  · exact q1.elim
theorem RpL.one {K : PySem.W.Frag} {Z : ZT} {A : Wy} {S : Store} {H : Hp} {vs : List V} {d : D} (r : RpL K Z A S H vs [d]) : ∃ v, vs = [v] ∧ RpS K Z A S H v d := by
  cases r with
  | cons r t => cases t; exact ⟨_, rfl, r⟩
theorem RpL.two {K : PySem.W.Frag} {Z : ZT} {A : Wy} {S : Store} {H : Hp} {vs : List V} {d e : D} (r : RpL K Z A S H vs [d, e]) : ∃ v w, vs = [v, w] ∧ RpS K Z A S H v d ∧ RpS K Z A S H w e := by
  cases r with
  | cons r t => obtain ⟨w, rfl, r2⟩ := t.one; exact ⟨_, w, rfl, r, r2⟩
theorem pair_new {A' : Wy} {S' : Store} {H' : Hp} {T : Addr} {x y : V} {d e : D} (c : Cells s.X.K A' S' H') (hT : H' T = none) (rx : Rp s.X.K H' (Own A' S') x d) (ry : Rp s.X.K H' (Own A' S') y e) :
    Same H' (upd H' T (.tup [x, y])) ∧ Rp s.X.K (upd H' T (.tup [x, y])) (Own A' S') (.ref T) (.tup [d, e]) :=
  ⟨same_upd hT, .tup (.of upd_same) (.cons (rx.same c (same_upd hT)) (.cons (ry.same c (same_upd hT)) .nil))⟩
theorem si_enum {n : MA} {p pos tpos : Pos} {elts : List Expr} {kk : Nat} (hg : Gl s.X "enumerate") (hm : s.X.mg "enumerate" = none) (ha : SA s [e] n) (hs : starEach [e] s.X.env = [(false, eval e s.X.env)] := by rfl) :
    SI s (.Tuple elts kk tpos) (.Call (.Name "enumerate" p) [e] [] pos) (srE n) := by
  refine PI.weak (pi_enum hg hm ha hs) fun σ H R q => ?_
  obtain ⟨ρ, S, A, c, q⟩ := q
  refine tDa_bindI c q fun ds S1 vs H1 em p1 c1 r1 q1 => ?_
  have key : ∀ d xs, vals d = some xs → ds = [d] → IOut s A S1 H1 σ R (.ok (enumFrom 0 xs) S1) → iEnum s.X.K (fun σ H Q => Q vs H) σ H1 R := fun d ds' hv e q2 => by
    subst e
    obtain ⟨v, rfl, r3⟩ := r1.one
    have r2 : Rp s.X.K H1 (Own A S1) v d := r3.rp (fun n z => by subst z; cases hv) fun c fs z => by subst z; cases hv
    obtain ⟨a, xs, rfl, hs, hl, later⟩ := list_later c1.cells r2 hv
    refine ⟨a, xs, rfl, hs, q2 _ H1 (.refl c1.cells) fun A' S' H' e g c' => ⟨fun i x hd => ?_, ?_⟩⟩
    · obtain ⟨l1, l2⟩ := later A' S' H' e g
      obtain ⟨y, h1, rfl⟩ := enumFrom_get ds' 0 i x hd
      obtain ⟨w, hw, rw'⟩ := l2.get h1
      refine ⟨⟨xs, w, l1, hw⟩, fun z H'' hy => ?_⟩
      obtain ⟨T, u, rfl, hT, rfl, hu⟩ := hy
      have := hu xs l1
      rw [hw] at this; cases this
      rw [Nat.zero_add]
      exact pair_new c' hT (.int _) rw'
    · obtain ⟨l1, l2⟩ := later A' S' H' e g
      exact ⟨xs, l1, by rw [enumFrom_len]; omega⟩
  split at q1
  · exact key _ _ rfl rfl q1
  · exact key _ _ rfl rfl q1
  · exact q1.elim
theorem si_zip {e2 : Expr} {n : MA} {p pos tpos : Pos} {elts : List Expr} {kk : Nat} (hg : Gl s.X "zip") (hm : s.X.mg "zip" = none) (ha : SA s [e, e2] n)
    (hs : starEach [e, e2] s.X.env = (false, eval e s.X.env) :: starEach [e2] s.X.env := by rfl) (hpl : (backTo pos (starEach [e2] s.X.env)).any (·.1) = false := by rfl) :
    SI s (.Tuple elts kk tpos) (.Call (.Name "zip" p) [e, e2] [] pos) (srZ n) := by
  refine PI.weak (RZ.pi_zipA hg hm ha hs hpl) fun σ H R q => ?_
  obtain ⟨ρ, S, A, c, q⟩ := q
  refine tDa_bindI c q fun ds S1 vs H1 em p1 c1 r1 q1 => ?_
  split at q1
  · rename_i f1 xs f2 ys
    obtain ⟨v, w, rfl, r1, r2⟩ := r1.two
    obtain ⟨a, us, rfl, hs, hl, later⟩ := list_later c1.cells (r1.rp (fun n z => nomatch z) fun c fs z => nomatch z) rfl
    obtain ⟨b, ws, rfl, hs2, hl2, later2⟩ := list_later c1.cells (r2.rp (fun n z => nomatch z) fun c fs z => nomatch z) rfl
    refine ⟨a, b, us, ws, rfl, .inl ⟨hs, hs2, q1 _ H1 (.refl c1.cells) fun A' S' H' e g c' => ⟨fun i x hd => ?_, ?_⟩⟩⟩
    · obtain ⟨l1, l2⟩ := later A' S' H' e g
      obtain ⟨l3, l4⟩ := later2 A' S' H' e g
      obtain ⟨y, z, h1, h2, rfl⟩ := zipD_get xs ys i x hd
      obtain ⟨x1, hx, rx⟩ := l2.get h1
      obtain ⟨x2, hx2, rx2⟩ := l4.get h2
      refine ⟨⟨us, ws, x1, x2, l1, l3, hx, hx2⟩, fun z H'' hy => ?_⟩
      obtain ⟨T, u1, u2, rfl, hT, rfl, hu1, hu2⟩ := hy
      have t1 := hu1 us l1
      have t2 := hu2 ws l3
      rw [hx] at t1; cases t1
      rw [hx2] at t2; cases t2
      exact pair_new c' hT rx rx2
    · obtain ⟨l1, l2⟩ := later A' S' H' e g
      obtain ⟨l3, l4⟩ := later2 A' S' H' e g
      exact ⟨us, ws, l1, l3, by rw [zipD_len]; omega⟩
  · rename_i xs ys
    obtain ⟨v, w, rfl, r1, r2⟩ := r1.two
    obtain ⟨a, us, rfl, hs, hl, later⟩ := tup_later c1.cells (r1.rp (fun n z => nomatch z) fun c fs z => nomatch z)
    obtain ⟨b, ws, rfl, hs2, hl2, later2⟩ := tup_later c1.cells (r2.rp (fun n z => nomatch z) fun c fs z => nomatch z)
    refine ⟨a, b, us, ws, rfl, .inr ⟨hs, hs2, q1 _ H1 (.refl c1.cells) fun A' S' H' e g c' => ⟨fun i x hd => ?_, ?_⟩⟩⟩
    · obtain ⟨l1, l2⟩ := later A' S' H' e g
      obtain ⟨l3, l4⟩ := later2 A' S' H' e g
      obtain ⟨y, z, h1, h2, rfl⟩ := zipD_get xs ys i x hd
      obtain ⟨x1, hx, rx⟩ := l2.get h1
      obtain ⟨x2, hx2, rx2⟩ := l4.get h2
      refine ⟨⟨us, ws, x1, x2, l1, l3, hx, hx2⟩, fun z H'' hy => ?_⟩
      obtain ⟨T, u1, u2, rfl, hT, rfl, hu1, hu2⟩ := hy
      have t1 := hu1 us l1
      have t2 := hu2 ws l3
      rw [hx] at t1; cases t1
      rw [hx2] at t2; cases t2
      exact pair_new c' hT rx rx2
    · obtain ⟨l1, l2⟩ := later A' S' H' e g
      obtain ⟨l3, l4⟩ := later2 A' S' H' e g
      exact ⟨us, ws, l1, l3, by rw [zipD_len]; omega⟩
  · exact q1.elim
end

/-! ### for -/
/-- a loop's turns -/
def forL (t : Tg) (b : MS) : List D → MS
  | [] => fun ρ S => .nx ρ S
  | d :: ds => fun ρ S => match t d ρ with
    | none => .bad
    | some ρ1 => match b ρ1 S with
      | .nx ρ2 S2 => forL t b ds ρ2 S2
      | .ct ρ2 S2 => forL t b ds ρ2 S2
      | .bk ρ2 S2 => .nx ρ2 S2
      | r => r
def mFor (src : Src) (t : Tg) (b : MS) : MS := fun ρ S => bindE (src ρ S) ρ fun ds S1 => forL t b ds ρ S1
def mWhile (c : MT) (b : MS) : Nat → MS
  | 0 => fun _ _ => .bad
  | k + 1 => fun ρ S => bindE (c ρ S) ρ fun t S1 => if t then (match b ρ S1 with
    | .nx ρ2 S2 => mWhile c b k ρ2 S2
    | .ct ρ2 S2 => mWhile c b k ρ2 S2
    | .bk ρ2 S2 => .nx ρ2 S2
    | r => r) else .nx ρ S1
section
variable {s : Sit} {ρ : Rho} {S S1 : Store} {A : Wy} {σ : St} {H H1 : Hp}
theorem tDi_bindS {m : Src} {k : List D → Store → ResS} {D : Ends} {R : It → Hp → Prop} (c : Cn s ρ S A σ H) (h : SOut s A S H D (bindE (m ρ S) ρ k))
    (go : ∀ ds S1 J H1, Pst s.X.K A S H S1 H1 → Cn s ρ S1 A σ H1 → ItOk s A S1 H1 J ds → SOut s A S1 H1 D (k ds S1) → R J H1) : tDi s m σ H R := by
  refine ⟨ρ, S, A, c, ?_⟩
  cases e : m ρ S with
  | ok d S1 => intro J H1 p r; rw [e] at h; exact go d S1 J H1 p (c.step p) r (SOut.on (p.pss c.cells) h)
  | exc x fs S1 => intro dd H1 p q; rw [e] at h; exact h dd σ H1 A (p.pss c.cells) (c.step p) q
  | bad => rw [e] at h; exact h
theorem Pss.growO {b : Nat} {A A' : Wy} {S S' : Store} {H H' : Hp} (p : Pss b A S H A' S' H') : Grow H (Own A S) (Own A' S') := fun a z => by
  rcases z with z | z
  · exact (p.grow a z).imp .inl id
  · rw [p.ph] at z; exact .inl (.inr z)
variable {st : Stmt} {tg iter c : Expr} {body : List Stmt} {src : Src} {t : Tg} {b : MS} {vs : List Nat} {pos : Pos}
theorem s_for (hp : PassesOwn (model s.X.prog s.X.w) s.X.A s.X.env s.X.xe) (hc : s.X.calm = true) (hi : SI s tg iter src) (hg : SG s tg vs t) (hb : SSs s body b)
    (hs : ∀ x, foldedSetIterable iter s.X.env x = pure x := by intro _; rfl) : SS s (.For tg iter body [] pos) (mFor src t b) := by
  refine PS.weak (ps_for hp hc hi hg hb hs) fun D σ H q => ?_
  obtain ⟨ρ, S, A, cn, q⟩ := q
  refine tDi_bindS cn q fun ds S1 J H1 p1 c1 it q1 => ?_
  refine ⟨fun i m σ' H' => ∃ ρ' S' A', m = ds.length - i ∧ i ≤ ds.length ∧ Pss s.base A S1 H1 A' S' H' ∧ Cn s ρ' S' A' σ' H' ∧ SOut s A' S' H' D (forL t b (ds.drop i) ρ' S'), ⟨ds.length, ρ, S1, A, rfl, Nat.zero_le _, .refl, c1, q1⟩, ?_⟩
  rintro i m σ' H' ⟨ρ', S', A', rfl, hi', ps, c', q'⟩
  obtain ⟨go, stop⟩ := it A' S' H' ps.ext.own ps.growO c'.cells
  by_cases hlt : i < ds.length
  · refine .inr ?_
    have hd : ds[i]? = some ds[i] := List.getElem?_eq_getElem hlt
    obtain ⟨g1, g2⟩ := go i ds[i] hd
    rw [List.drop_eq_getElem_cons hlt] at q'
    refine ⟨g1, fun σ2 H2 => ∃ ρ2 S2 A2, Pss s.base A S1 H1 A2 S2 H2 ∧ Cn s ρ2 S2 A2 σ2 H2 ∧ SOut s A2 S2 H2 D (forL t b (ds.drop (i + 1)) ρ2 S2), ?_, fun x H'' hy => ?_⟩
    · rintro σ2 H2 ⟨ρ2, S2, A2, h1, h2, h3⟩
      exact ⟨ds.length - (i + 1), by omega, ρ2, S2, A2, rfl, hlt, h1, h2, h3⟩
    · obtain ⟨sm, rx⟩ := g2 x H'' hy
      have p2 : Pst s.X.K A' S' H' S' H'' := .of_same c'.cells sm
      have c2 := c'.step p2
      have q2 := SOut.on (p2.pss c'.cells) q'
      simp only [forL] at q2
      cases ht : t ds[i] ρ' with
      | none => rw [ht] at q2; exact q2.elim
      | some ρ1 =>
        rw [ht] at q2
        refine ⟨ρ', S', A', ds[i], ρ1, c2, rx, ht, fun σ2 _ c3 => ⟨ρ1, S', A', c3, ?_⟩⟩
        have ps2 : Pss s.base A S1 H1 A' S' H'' := ps.trans (p2.pss c'.cells)
        dsimp only at q2
        cases hb' : b ρ1 S' with
        | nx ρ2 S2 => rw [hb'] at q2; intro σ3 H3 A3 p3 c4; exact ⟨ρ2, S2, A3, ps2.trans p3, c4, SOut.on p3 q2⟩
        | ct ρ2 S2 => rw [hb'] at q2; intro σ3 H3 A3 p3 c4; exact ⟨ρ2, S2, A3, ps2.trans p3, c4, SOut.on p3 q2⟩
        | bk ρ2 S2 => rw [hb'] at q2; exact q2
        | rt d S2 => rw [hb'] at q2; exact q2
        | exc x fs ρ2 S2 => rw [hb'] at q2; exact q2
        | bad => rw [hb'] at q2; exact q2
  · have e : i = ds.length := by omega
    subst e
    rw [List.drop_length] at q'
    exact .inl ⟨stop, q' σ' H' A' .refl c'⟩
theorem s_while {mc : MT} {k : Nat} (hp : PassesOwn (model s.X.prog s.X.w) s.X.A s.X.env s.X.xe) (hc : ST s c mc) (hb : SSs s body b) : SS s (.While c body [] pos) (mWhile mc b k) := by
  refine PS.weak (ps_while hp hc hb) fun D σ H q => ?_
  refine ⟨fun m σ H => tDs s (mWhile mc b m) D σ H, ⟨k, q⟩, ?_⟩
  rintro m σ H ⟨ρ, S, A, cn, q⟩
  cases m with
  | zero => exact q.elim
  | succ m =>
    simp only [mWhile] at q
    refine tDt_bindS cn q fun t S1 H1 _ p1 c1 q1 => ?_
    cases t with
    | false => exact iteF (q1 σ H1 A .refl c1)
    | true =>
      refine iteT ⟨fun σ' H' => tDs s (mWhile mc b m) D σ' H', fun σ' H' h => ⟨m, by omega, h⟩, ρ, S1, A, c1, ?_⟩
      rw [if_pos rfl] at q1
      cases hb' : b ρ S1 with
      | nx ρ2 S2 => rw [hb'] at q1; intro σ3 H3 A3 p3 c4; exact ⟨ρ2, S2, A3, c4, SOut.on p3 q1⟩
      | ct ρ2 S2 => rw [hb'] at q1; intro σ3 H3 A3 p3 c4; exact ⟨ρ2, S2, A3, c4, SOut.on p3 q1⟩
      | bk ρ2 S2 => rw [hb'] at q1; exact q1
      | rt d S2 => rw [hb'] at q1; exact q1
      | exc x fs ρ2 S2 => rw [hb'] at q1; exact q1
      | bad => rw [hb'] at q1; exact q1
end
end Dv

set_option maxHeartbeats 4000000
namespace Dv
open PySem PySem.Spec PyProof.Rows L2
set_option autoImplicit false

/-! ### comprehensions -/
def wipeR (ρ : Rho) : List Nat → Rho
  | [] => ρ
  | v :: vs => (wipeR ρ vs).set v none
theorem wipeR_len (ρ : Rho) : ∀ vs : List Nat, (wipeR ρ vs).length = ρ.length
  | [] => rfl
  | v :: vs => by unfold wipeR; rw [List.length_set, wipeR_len ρ vs]
theorem wipeR_some {ρ : Rho} {i : Nat} {d : D} : ∀ {vs : List Nat}, (wipeR ρ vs)[i]? = some (some d) → ρ[i]? = some (some d) ∧ i ∉ vs
  | [], h => ⟨h, by simp⟩
  | v :: vs, h => by
    unfold wipeR at h
    by_cases hi : v = i
    · subst hi
      by_cases hv : v < (wipeR ρ vs).length
      · rw [List.getElem?_set_self hv] at h; cases h
      · rw [List.getElem?_eq_none (by simpa using hv)] at h; cases h
    · rw [List.getElem?_set_ne hi] at h
      obtain ⟨h1, h2⟩ := wipeR_some h
      exact ⟨h1, by simp only [List.mem_cons, not_or]; exact ⟨fun e => hi e.symm, h2⟩⟩
theorem wipe_other {σ : St} {i : Nat} : ∀ {vs : List Nat}, i ∉ vs → (wipe σ vs)[i]? = σ[i]?
  | [], _ => rfl
  | v :: vs, h => by
    unfold wipe
    simp only [List.mem_cons, not_or] at h
    rw [List.getElem?_set_ne (fun z => h.1 z.symm), wipe_other h.2]
theorem wipe_in {σ : St} {i : Nat} : ∀ {vs : List Nat}, i ∈ vs → (wipe σ vs)[i]? = if i < σ.length then some none else none
  | v :: vs, h => by
    unfold wipe
    rw [List.getElem?_set]
    by_cases hv : v = i
    · subst hv
      rw [if_pos rfl, wipe_length]
    · rw [if_neg hv]
      rcases List.mem_cons.mp h with e | h
      · exact absurd e.symm hv
      · exact wipe_in h
theorem wipe_touch {σ σ' : St} {vs : List Nat} (t : Touch vs (wipe σ vs) σ') : wipe σ' vs = wipe σ vs := by
  refine List.ext_getElem? fun i => ?_
  have l : σ'.length = σ.length := by rw [t.1, wipe_length]
  by_cases h : i ∈ vs
  · rw [wipe_in h, wipe_in h, l]
  · rw [wipe_other h, t.2 i h]

def compL (t : Tg) (test : MT) (elt : ME) (ρ : Rho) : List D → Store → Res (List D)
  | [], S => .ok [] S
  | d :: ds, S => match t d ρ with
    | none => .bad
    | some ρ1 => match test ρ1 S with
      | .ok b S1 => if b then (match elt ρ1 S1 with
        | .ok x S2 => if plain x then (match compL t test elt ρ ds S2 with
          | .ok ys S3 => .ok (cool x :: ys) S3
          | _ => .bad) else .bad
        | _ => .bad) else compL t test elt ρ ds S1
      | _ => .bad
def tYesM : MT := fun _ S => .ok true S
def mComp (src : Src) (vs : List Nat) (t : Tg) (test : MT) (elt : ME) : ME := fun ρ S => (src ρ S).bind fun ds S1 => match compL t test elt (wipeR ρ vs) ds S1 with
  | .ok ys S2 => if ys.length ≤ LINE then .ok (.lst true ys) S2 else .bad
  | _ => .bad

/-- the block's situation -/
abbrev Sit.blk (s : Sit) (sh : Shared) (H : Hp) (scope : Scope) (cenv : Env) (fp : List Addr) : Sit := { s with X := s.X.blk sh H scope cenv fp, W := fun _ _ _ _ => False }
def STs (s : Sit) (ifs : List Expr) (m : MT) : Prop := PTs s.X ifs (tDt s m)
theorem PTs.weak {X : Cx} {es : List Expr} {t t' : TT} (h : PTs X es t) (w : ∀ σ H Q, t' σ H Q → t σ H Q) : PTs X es t' := ⟨fun pins s σ H Q I q => h.run pins s σ H Q I (w _ _ _ q)⟩
theorem sts_nil {s : Sit} : STs s [] tYesM := PTs.weak pts_nil fun σ H Q q => by
  obtain ⟨ρ, S, A, c, q⟩ := q
  exact q H (.refl c.cells)
theorem sts_one {s : Sit} {c : Expr} {m : MT} (h : ST s c m) : STs s [c] m := pts_one h

section
variable {s : Sit} {ρ : Rho} {S S1 : Store} {A : Wy} {σ : St} {H H1 : Hp}
theorem RpS.move {K : PySem.W.Frag} {Z : ZT} {A A' : Wy} {S S' : Store} {H H' : Hp} {v : V} {d : D} (ow : Owns H (Own A S)) (e : Ext (Own A S) H H') (g : Grow H (Own A S) (Own A' S')) (hl : A'.loc = A.loc) (l : Lives S S') (h : RpS K Z A S H v d) : RpS K Z A' S' H' v d := by
  rcases h with ⟨n, x, h1, h2, h3⟩ | h | ⟨k, fs, dd, h1, h2, h3⟩
  · obtain ⟨x', h'⟩ := l.get h3
    exact .inl ⟨n, x', h1, by rw [hl]; exact h2, h'⟩
  · exact .inr (.inl (h.ext ow e g))
  · exact .inr (.inr ⟨k, fs, dd, h1, h2, h3.ext ow e g⟩)
/-- the same slots, elsewhere -/
theorem Cn.move {s' : Sit} {A' : Wy} (hK : s'.X.K = s.X.K) (hZ : s'.Z = s.Z) (hb : s'.base = s.base) (c : Cn s ρ S A σ H) (e : Ext (Own A S) H H1) (g : Grow H (Own A S) (Own A' S1)) (hl : A'.loc = A.loc) (l : Lives S S1) (len : S1.length = S.length) (cs : Cells s.X.K A' S1 H1) : Cn s' ρ S1 A' σ H1 :=
  ⟨fun i d h => let ⟨v, h1, h2⟩ := c.slot i d h; ⟨v, h1, by rw [hK, hZ]; exact h2.move c.cells.owns e g hl l⟩, by rw [hK]; exact cs, by rw [hb]; exact c.disc, c.len, by rw [hb, len]; exact c.room⟩
theorem Cn.wiped (c : Cn s ρ S A σ H) (vs : List Nat) : Cn s (wipeR ρ vs) S A (wipe σ vs) H := by
  refine ⟨fun i d h => ?_, c.cells, fun i n h => c.disc i n (wipeR_some h).1, by rw [wipe_length, wipeR_len]; exact c.len, by rw [wipeR_len]; exact c.room⟩
  obtain ⟨h1, h2⟩ := wipeR_some h
  obtain ⟨v, h3, h4⟩ := c.slot i d h1
  exact ⟨v, by rw [wipe_other h2]; exact h3, h4⟩
theorem Ext.trans_own {A : Wy} {S S' : Store} {H H1 H2 : Hp} (l : Lives S S') (free : ∀ a o, H a = some o → ¬ A.ph a → H1 a ≠ none) (a : Ext (Own A S) H H1) (b : Ext (Own A S') H1 H2) : Ext (Own A S) H H2 := fun x o h n => by
  refine b x o (a x o h n) ?_
  rw [l.own A]; exact n

/-- THE RULE of a list comprehension, on the reading's side -/
theorem comp_red {src : Src} {vs : List Nat} {t : Tg} {test : MT} {elt : ME} {Q : VK} {wi : TI} {g : TG} {tt : TT} {te : TE}
    (hwi : ∀ σ H R, tDi s src σ H R → wi σ H R)
    (hg : ∀ (sb : Sit), sb.X.K = s.X.K → sb.Z = s.Z → sb.base = s.base → (∀ c d σ H, sb.W c d σ H → False) → ∀ v σ H Q, tDg sb vs t v σ H Q → g v σ H Q)
    (ht : ∀ (sb : Sit), sb.X.K = s.X.K → sb.Z = s.Z → sb.base = s.base → (∀ c d σ H, sb.W c d σ H → False) → ∀ σ H Q, tDt sb test σ H Q → tt σ H Q)
    (he : ∀ (sb : Sit), sb.X.K = s.X.K → sb.Z = s.Z → sb.base = s.base → (∀ c d σ H, sb.W c d σ H → False) → ∀ σ H Q, tD sb elt σ H Q → te σ H Q)
    {σ : St} {H : Hp} (q : tD s (mComp src vs t test elt) σ H Q) : tLc wi g tt te vs σ H Q := by
  obtain ⟨ρ, S, A, c, q⟩ := q
  refine hwi _ _ _ ⟨ρ, S, A, c, ?_⟩
  unfold mComp at q
  cases es : src ρ S with
  | exc x fs S1 => rw [es] at q; intro dd H1 p z; exact q dd H1 p z
  | bad => rw [es] at q; exact q
  | ok ds S1 =>
  rw [es] at q
  dsimp only [bind_ok] at q
  intro J H1 p1 it Dd hD
  have c1 := c.step p1
  -- the block's own world: the new list is nobody's
  let A' : Wy := ⟨A.loc, fun a => A.ph a ∨ a = Dd⟩
  let sb : Sit := { s with W := fun _ _ _ _ => False }
  have dOwn : ¬ Own A S1 Dd := own_some c1.cells hD
  have oC : ∀ S', OwC A' S' = OwC A S' := fun _ => rfl
  have oO : ∀ S' a, Own A' S' a ↔ Own A S' a ∨ a = Dd := fun S' a => by
    constructor
    · rintro (z | z | z)
      · exact .inl (.inl z)
      · exact .inl (.inr z)
      · exact .inr z
    · rintro ((z | z) | z)
      · exact .inl z
      · exact .inr (.inl z)
      · exact .inr (.inr z)
  have gD : ∀ {S'}, Lives S1 S' → Grow H1 (Own A S1) (Own A' S') := fun {S'} l a z => by
    rcases (oO S' a).mp z with z | z
    · exact .inl (by rw [← l.own A]; exact z)
    · exact .inr (by rw [z]; exact hD)
  cases ec : compL t test elt (wipeR ρ vs) ds S1 with
  | exc _ _ _ => rw [ec] at q; exact q.elim
  | bad => rw [ec] at q; exact q.elim
  | ok ys Sf =>
  rw [ec] at q
  dsimp only at q
  split at q
  case isFalse => exact q.elim
  rename_i hlen
  refine ⟨fun i m H' => ∃ S' accV dn rest, m = ds.length - i ∧ i ≤ ds.length ∧ H' Dd = some (.lst accV) ∧ RpAll s.X.K H' (Own A' S') accV dn ∧ dn ++ rest = ys ∧ compL t test elt (wipeR ρ vs) (ds.drop i) S' = .ok rest Sf ∧
    Ext (OwC A S1) H1 H' ∧ Lives S1 S' ∧ S'.length = S1.length ∧ Cn sb (wipeR ρ vs) S' A' (wipe σ vs) H', ⟨ds.length, S1, [], [], ys, rfl, Nat.zero_le _, upd_same, .nil, rfl, ec, ?_, .refl _, rfl, ?_⟩, ?_⟩
  · intro a o h n
    rw [upd_ne (ne_of_none h hD)]; exact h
  · refine (c1.wiped vs).move (s := s) (s' := sb) rfl rfl rfl (Ext.of_same (same_upd hD)) (gD (.refl _)) rfl (.refl _) rfl ⟨fun n d h => ?_, c1.cells.inj, fun a z => ?_, fun a z => ?_⟩
    · exact (c1.cells.at_ n d h).ext c1.cells.owns (.of_same (same_upd hD)) (gD (.refl _)) fun o q => same_upd hD _ _ q
    · rcases z with z | z
      · obtain ⟨o, q1, q2⟩ := c1.cells.phs a z
        exact ⟨o, same_upd hD _ _ q1, q2⟩
      · exact ⟨.lst [], by rw [z]; exact upd_same, rfl⟩
    · rcases z with z | z
      · exact c1.cells.apart a z
      · intro w; rw [z] at w; exact dOwn (.inl w)
  rintro i m H' ⟨S', accV, dn, rest, rfl, hi, hacc, racc, hys, hc', ext, lv, ln, cb⟩
  obtain ⟨go, stop⟩ := it A' S' H' ext.own (gD lv) cb.cells
  by_cases hlt : i < ds.length
  · refine .inr ?_
    have hd : ds[i]? = some ds[i] := List.getElem?_eq_getElem hlt
    obtain ⟨g1, g2⟩ := go i ds[i] hd
    rw [List.drop_eq_getElem_cons hlt] at hc'
    simp only [compL] at hc'
    refine ⟨g1, fun H' => ∃ S' accV dn rest, i + 1 ≤ ds.length ∧ H' Dd = some (.lst accV) ∧ RpAll s.X.K H' (Own A' S') accV dn ∧ dn ++ rest = ys ∧ compL t test elt (wipeR ρ vs) (ds.drop (i + 1)) S' = .ok rest Sf ∧
      Ext (OwC A S1) H1 H' ∧ Lives S1 S' ∧ S'.length = S1.length ∧ Cn sb (wipeR ρ vs) S' A' (wipe σ vs) H', ?_, fun x H2 hy => ?_⟩
    · rintro H2 ⟨S2, a2, d2, r2, h1, h2, h3, h4, h5, h6, h7, h8, h9⟩
      exact ⟨ds.length - (i + 1), by omega, S2, a2, d2, r2, rfl, h1, h2, h3, h4, h5, h6, h7, h8, h9⟩
    · obtain ⟨sm, rx⟩ := g2 x H2 hy
      have p2 : Pst s.X.K A' S' H' S' H2 := .of_same cb.cells sm
      have cb2 : Cn sb (wipeR ρ vs) S' A' (wipe σ vs) H2 := cb.step p2
      have ext2 : Ext (OwC A S1) H1 H2 := fun a o h n => sm _ _ (ext a o h n)
      cases ht' : t ds[i] (wipeR ρ vs) with
      | none => rw [ht'] at hc'; cases hc'
      | some ρ1 =>
      rw [ht'] at hc'
      dsimp only at hc'
      refine hg sb rfl rfl rfl (fun _ _ _ _ z => z) _ _ _ _ ⟨wipeR ρ vs, S', A', ds[i], ρ1, cb2, rx, ht', fun σ2 t2 cb3 => ⟨wipe_touch t2, ?_⟩⟩
      cases htt : test ρ1 S' with
      | exc _ _ _ => rw [htt] at hc'; cases hc'
      | bad => rw [htt] at hc'; cases hc'
      | ok b S3 =>
      rw [htt] at hc'
      dsimp only at hc'
      refine ht sb rfl rfl rfl (fun _ _ _ _ z => z) _ _ _ ⟨ρ1, S', A', cb3, ?_⟩
      rw [htt]
      intro H3 p3
      have cb4 : Cn sb ρ1 S3 A' σ2 H3 := cb3.step p3
      have cbw : Cn sb (wipeR ρ vs) S3 A' (wipe σ vs) H3 := cb2.step p3
      have ext3 : Ext (OwC A S1) H1 H3 := fun a o h n => p3.ext a o (ext2 a o h n) (by rw [oC, lv.ownC A]; exact n)
      have lv3 : Lives S1 S3 := lv.trans p3.lives
      have dh3 : H3 Dd = some (.lst accV) := p3.ext _ _ (sm _ _ hacc) (cb.cells.apart Dd (.inr rfl))
      have racc3 : RpAll s.X.K H3 (Own A' S3) accV dn := (racc.step cb.cells p2).step cb2.cells p3
      cases b with
      | false =>
        rw [if_neg Bool.false_ne_true] at hc' ⊢
        exact ⟨S3, accV, dn, rest, hlt, dh3, racc3, hys, hc', ext3, lv3, p3.len.trans ln, cbw⟩
      | true =>
        rw [if_pos rfl] at hc' ⊢
        refine he sb rfl rfl rfl (fun _ _ _ _ z => z) _ _ _ ⟨ρ1, S3, A', cb4, ?_⟩
        cases hel : elt ρ1 S3 with
        | exc _ _ _ => rw [hel] at hc'; cases hc'
        | bad => rw [hel] at hc'; cases hc'
        | ok x S4 =>
        rw [hel] at hc'
        dsimp only at hc'
        split at hc'
        case isFalse => cases hc'
        rename_i hpl
        intro y H4 p4 ry fy
        have dh4 : H4 Dd = some (.lst accV) := p4.ext _ _ dh3 (cb4.cells.apart Dd (.inr rfl))
        have racc4 := racc3.step cb4.cells p4
        cases hr : compL t test elt (wipeR ρ vs) (List.drop (i + 1) ds) S4 with
        | exc _ _ _ => rw [hr] at hc'; cases hc'
        | bad => rw [hr] at hc'; cases hc'
        | ok ys' S5 =>
        rw [hr] at hc'
        dsimp only at hc'
        cases hc'
        have hl : accV.length = dn.length := racc.length
        have hl2 : dn.length < ys.length := by rw [← hys]; simp
        have c5 : Cn sb (wipeR ρ vs) S4 A' (wipe σ vs) H4 := cbw.step p4
        have own5 : Own A' S4 Dd := .inr (.inr rfl)
        have e5 : Ext (Own A' S4) H4 (upd H4 Dd (.lst (accV ++ [y]))) := fun a o h n => by
          rw [upd_ne (fun z => n (by rw [z]; exact own5))]
          exact h
        refine ⟨accV, dh4, by rw [hl, line_eq]; exact Nat.lt_of_lt_of_le hl2 hlen, S4, accV ++ [y], dn ++ [cool x], ys', hlt, upd_same, ?_, by rw [← hys]; simp, hr, ?_, lv3.trans p4.lives, p4.len.trans (p3.len.trans ln), ?_⟩
        · exact (racc4.append (.cons (ry.plain hpl).cool .nil)).ext c5.cells.owns e5 (.refl _ _)
        · intro a o h n
          have : H4 a = some o := p4.ext a o (ext3 a o h n) (by rw [oC, lv3.ownC A]; exact n)
          rw [upd_ne (ne_of_none h hD)]; exact this
        · refine c5.move (s' := sb) rfl rfl rfl e5 (.refl _ _) rfl (.refl _) rfl ⟨fun n d h => ?_, c5.cells.inj, fun a z => ?_, c5.cells.apart⟩
          · refine (c5.cells.at_ n d h).ext c5.cells.owns e5 (.refl _ _) fun o q => ?_
            rw [upd_ne (fun z => c5.cells.apart Dd (.inr rfl) ⟨n, d, h, z⟩)]; exact q
          · by_cases hz : a = Dd
            · rw [hz]; exact ⟨_, upd_same, rfl⟩
            · rw [upd_ne hz]; exact c5.cells.phs a z
  · have e : i = ds.length := by omega
    subst e
    rw [List.drop_length] at hc'
    simp only [compL] at hc'
    cases hc'
    rw [List.append_nil] at hys
    subst hys
    refine .inl ⟨stop, q (.ref Dd) H' ?_ (.inr (.inl (.lst ?_ hacc ?_))) fun _ => ⟨Dd, rfl, p1.free c.cells _ hD, .lst hacc ?_, fun n e h => ?_⟩⟩
    · refine p1.trans ⟨ext, lv, ln, ⟨fun n d h => (cb.cells.at_ n d h).own cb.cells.owns fun x z => (oO _ x).mpr (.inl z), cb.cells.inj, fun a z => cb.cells.phs a (.inl z), fun a z => cb.cells.apart a (.inl z)⟩⟩
    · rintro (z | z)
      · exact cb.cells.apart Dd (.inr rfl) z
      · exact dOwn (.inr z)
    · exact racc.ext cb.cells.owns (.refl _ _) fun x z => .inl ((oO _ x).mpr (.inl z))
    · exact racc.ext cb.cells.owns (.refl _ _) fun x z => .inl ((oO _ x).mpr z)
    · exact (cb.cells.at_ n e h).own cb.cells.owns fun x z => (oO _ x).mpr z

theorem Cn.conv {s s' : Sit} {ρ : Rho} {S : Store} {A : Wy} {σ : St} {H : Hp} (hK : s'.X.K = s.X.K) (hZ : s'.Z = s.Z) (hb : s'.base = s.base) (c : Cn s ρ S A σ H) : Cn s' ρ S A σ H :=
  ⟨by rw [hK, hZ]; exact c.slot, by rw [hK]; exact c.cells, by rw [hb]; exact c.disc, c.len, by rw [hb]; exact c.room⟩
end
section
variable {s s' : Sit} (hK : s'.X.K = s.X.K) (hZ : s'.Z = s.Z) (hb : s'.base = s.base) (hW : ∀ c d σ H, s.W c d σ H → False)
include hK hZ hb
theorem tDg_conv {vs : List Nat} {t : Tg} {v : V} {σ : St} {H : Hp} {Q : St → Hp → Prop} (q : tDg s vs t v σ H Q) : tDg s' vs t v σ H Q := by
  obtain ⟨ρ, S, A, d, ρ', c, r, h, q⟩ := q
  exact ⟨ρ, S, A, d, ρ', c.conv hK hZ hb, by rw [hK]; exact r, h, fun σ' t' c' => q σ' t' (c'.conv hK.symm hZ.symm hb.symm)⟩
include hW
theorem tDt_conv {m : MT} {σ : St} {H : Hp} {Q : Bool → Hp → Prop} (q : tDt s m σ H Q) : tDt s' m σ H Q := by
  obtain ⟨ρ, S, A, c, q⟩ := q
  refine ⟨ρ, S, A, c.conv hK hZ hb, ?_⟩
  cases e : m ρ S with
  | ok b S1 => rw [e] at q; intro H1 p; rw [hK] at p; exact q H1 p
  | exc x fs S1 => rw [e] at q; intro dd H1 p z; rw [hK] at p z; exact (hW _ _ _ _ (q dd H1 p z)).elim
  | bad => rw [e] at q; exact q
theorem tD_conv {m : ME} {σ : St} {H : Hp} {Q : VK} (q : tD s m σ H Q) : tD s' m σ H Q := by
  obtain ⟨ρ, S, A, c, q⟩ := q
  refine ⟨ρ, S, A, c.conv hK hZ hb, ?_⟩
  cases e : m ρ S with
  | ok b S1 => rw [e] at q; intro v H1 p r f; rw [hK] at p f; rw [hK, hZ] at r; exact q v H1 p r f
  | exc x fs S1 => rw [e] at q; intro dd H1 p z; rw [hK] at p z; exact (hW _ _ _ _ (q dd H1 p z)).elim
  | bad => rw [e] at q; exact q
end
section
variable {s : Sit} {elt tg iter : Expr} {ifs : List Expr} {scope : Scope} {own : List (Str × Nat)} {pos : Pos} {src : Src} {vs : List Nat} {t : Tg} {test : MT} {m : ME}
/-- no exception goes out of a block -/
abbrev Sit.mute (s : Sit) : Sit := { s with W := fun _ _ _ _ => False }
theorem se_comp (hc : s.X.calm = true) (hN : s.X.N.Nodup) (hi : SI s tg iter src) (ok : BlkOk s.X.N s.X.env.scope scope own) (hv : own.map (·.2) = vs)
    (hg : ∀ (sh : Shared) (H : Hp) (C : Addr) (cl : List (Str × Addr)) (fp : List Addr), SG (s.blk sh H scope (compEnvC scope cl C s.X.env) fp) tg vs t)
    (ht : ∀ (sh : Shared) (H : Hp) (C : Addr) (cl : List (Str × Addr)) (fp : List Addr), STs (s.blk sh H scope (compEnvC scope cl C s.X.env) fp) ifs test)
    (he : ∀ (sh : Shared) (H : Hp) (C : Addr) (cl : List (Str × Addr)) (fp : List Addr), SE (s.blk sh H scope (compEnvC scope cl C s.X.env) fp) elt m)
    (hs : ∀ x, foldedSetIterable iter s.X.env x = pure x := by intro _; rfl) : SE s (.ListComp elt [⟨tg, iter, ifs, 0⟩] scope pos) (mComp src vs t test m) := by
  subst hv
  refine PE.weak (pe_lc (wi := tDi s src) (g := tDg s.mute (own.map (·.2)) t) (tt := tDt s.mute test) (te := tD s.mute m) hc hN hi ok (fun sh H C cl fp => ?_) (fun sh H C cl fp => ?_) (fun sh H C cl fp => ?_) hs) fun σ H Q q => ?_
  · exact PG.weak (hg sh H C cl fp) fun v σ H2 Q q => tDg_conv (s := s.mute) (s' := s.blk sh H scope (compEnvC scope cl C s.X.env) fp) rfl rfl rfl q
  · exact PTs.weak (ht sh H C cl fp) fun σ H2 Q q => tDt_conv (s := s.mute) (s' := s.blk sh H scope (compEnvC scope cl C s.X.env) fp) rfl rfl rfl (fun _ _ _ _ z => z) q
  · exact PE.weak (he sh H C cl fp) fun σ H2 Q q => tD_conv (s := s.mute) (s' := s.blk sh H scope (compEnvC scope cl C s.X.env) fp) rfl rfl rfl (fun _ _ _ _ z => z) q
  · exact comp_red (s := s) (fun _ _ _ q => q) (fun sb h1 h2 h3 h4 v σ H Q q => tDg_conv (s' := s.mute) h1.symm h2.symm h3.symm q) (fun sb h1 h2 h3 h4 σ H Q q => tDt_conv (s' := s.mute) h1.symm h2.symm h3.symm h4 q) (fun sb h1 h2 h3 h4 σ H Q q => tD_conv (s' := s.mute) h1.symm h2.symm h3.symm h4 q) q
end

/-! ### name = value -/
section
variable {s : Sit} {m : ME} {e : Expr} {pos : Pos}
theorem setV_red {i : Nat} {D : Ends} {σ : St} {H : Hp} (q : tDs s (mSetV s.base i m) D σ H) : tAsg (tD s m) (gName i) D σ H := by
  obtain ⟨ρ, S, A, c, q⟩ := q
  exact tD_bindS c q fun d S1 v H1 _ p1 c1 r1 f1 q1 => holdV_go c1 r1 q1
theorem setO_red {i : Nat} {D : Ends} {σ : St} {H : Hp} (q : tDs s (mSetO s.base i m) D σ H) : tAsg (tD s m) (gName i) D σ H := by
  obtain ⟨ρ, S, A, c, q⟩ := q
  refine ⟨ρ, S, A, c, ?_⟩
  unfold mSetO at q
  cases e : m ρ S with
  | ok d S1 => rw [e] at q; intro v H1 p r f; exact holdO_go c p r f q
  | exc x fs S1 => rw [e] at q; intro dd H1 p z; exact q dd σ H1 A (p.pss c.cells) (c.step p) z
  | bad => rw [e] at q; exact q
theorem s_setV {i : Nat} {x : Str} {pos' : Pos} (hN : s.X.N.Nodup) (hi : s.X.N[i]? = some x) (hx : Loc s.X.env.scope x) (he : SE s e m) (hs : swapsWith e (some (.Name x pos')) pos.line s.X.env = pure false := by rfl) (hf : s.X.fn x = true ∨ s.X.env.scope.names.lookup x = some .local := by first | exact .inl rfl | exact .inr rfl | assumption) :
    SS s (.Assign [.Name x pos'] e pos) (mSetV s.base i m) := PS.weak (ps_set hN hi hx he hs hf) fun _ _ _ q => setV_red q
theorem s_setO {i : Nat} {x : Str} {pos' : Pos} (hN : s.X.N.Nodup) (hi : s.X.N[i]? = some x) (hx : Loc s.X.env.scope x) (he : SE s e m) (hs : swapsWith e (some (.Name x pos')) pos.line s.X.env = pure false := by rfl) (hf : s.X.fn x = true ∨ s.X.env.scope.names.lookup x = some .local := by first | exact .inl rfl | exact .inr rfl | assumption) :
    SS s (.Assign [.Name x pos'] e pos) (mSetO s.base i m) := PS.weak (ps_set hN hi hx he hs hf) fun _ _ _ q => setO_red q
variable {elt tg iter : Expr} {ifs : List Expr} {scope : Scope} {own : List (Str × Nat)} {src : Src} {vs : List Nat} {t : Tg} {test : MT} {me : ME} {spos : Pos}
theorem asg_mono {te te' : TE} {g : TG} (h : ∀ σ H Q, te' σ H Q → te σ H Q) {D : Ends} {σ : St} {H : Hp} (q : tAsg te' g D σ H) : tAsg te g D σ H := h _ _ _ q
theorem lc_core2 {i : Nat} {y : Str} {py : Pos} (hc : s.X.calm = true) (hN : s.X.N.Nodup) (hy : s.X.N[i]? = some y) (hyl : s.X.env.scope.names.lookup y = some .local)
    (hsw : swapsWith (.ListComp elt [⟨tg, iter, ifs, 0⟩] scope pos) (some (.Name y py)) spos.line s.X.env = pure true) (hi : SI s tg iter src) (ok : BlkOk s.X.N s.X.env.scope scope own) (hv : own.map (·.2) = vs)
    (hg : ∀ (sh : Shared) (H : Hp) (C : Addr) (cl : List (Str × Addr)) (fp : List Addr), SG (s.blk sh H scope (compEnvC scope cl C s.X.env) fp) tg vs t)
    (ht : ∀ (sh : Shared) (H : Hp) (C : Addr) (cl : List (Str × Addr)) (fp : List Addr), STs (s.blk sh H scope (compEnvC scope cl C s.X.env) fp) ifs test)
    (he : ∀ (sh : Shared) (H : Hp) (C : Addr) (cl : List (Str × Addr)) (fp : List Addr), SE (s.blk sh H scope (compEnvC scope cl C s.X.env) fp) elt me)
    (hs : ∀ x, foldedSetIterable iter s.X.env x = pure x := by intro _; rfl) : PS s.X (.Assign [.Name y py] (.ListComp elt [⟨tg, iter, ifs, 0⟩] scope pos) spos) (tAsg (tD s (mComp src vs t test me)) (gName i)) := by
  subst hv
  refine PS.weak (ps_setLc (wi := tDi s src) (g := tDg s.mute (own.map (·.2)) t) (tt := tDt s.mute test) (te := tD s.mute me) hc hN hy hyl hsw hi ok (fun sh H C cl fp => ?_) (fun sh H C cl fp => ?_) (fun sh H C cl fp => ?_) hs) fun D σ H q => ?_
  · exact PG.weak (hg sh H C cl fp) fun v σ H2 Q q => tDg_conv (s := s.mute) (s' := s.blk sh H scope (compEnvC scope cl C s.X.env) fp) rfl rfl rfl q
  · exact PTs.weak (ht sh H C cl fp) fun σ H2 Q q => tDt_conv (s := s.mute) (s' := s.blk sh H scope (compEnvC scope cl C s.X.env) fp) rfl rfl rfl (fun _ _ _ _ z => z) q
  · exact PE.weak (he sh H C cl fp) fun σ H2 Q q => tD_conv (s := s.mute) (s' := s.blk sh H scope (compEnvC scope cl C s.X.env) fp) rfl rfl rfl (fun _ _ _ _ z => z) q
  · exact asg_mono (fun σ H Q q => comp_red (s := s) (fun _ _ _ q => q) (fun sb h1 h2 h3 h4 v σ H Q q => tDg_conv (s' := s.mute) h1.symm h2.symm h3.symm q) (fun sb h1 h2 h3 h4 σ H Q q => tDt_conv (s' := s.mute) h1.symm h2.symm h3.symm h4 q) (fun sb h1 h2 h3 h4 σ H Q q => tD_conv (s' := s.mute) h1.symm h2.symm h3.symm h4 q) q) q
theorem s_lcV {i : Nat} {y : Str} {py : Pos} (hc : s.X.calm = true) (hN : s.X.N.Nodup) (hy : s.X.N[i]? = some y) (hyl : s.X.env.scope.names.lookup y = some .local)
    (hsw : swapsWith (.ListComp elt [⟨tg, iter, ifs, 0⟩] scope pos) (some (.Name y py)) spos.line s.X.env = pure true) (hi : SI s tg iter src) (ok : BlkOk s.X.N s.X.env.scope scope own) (hv : own.map (·.2) = vs)
    (hg : ∀ (sh : Shared) (H : Hp) (C : Addr) (cl : List (Str × Addr)) (fp : List Addr), SG (s.blk sh H scope (compEnvC scope cl C s.X.env) fp) tg vs t)
    (ht : ∀ (sh : Shared) (H : Hp) (C : Addr) (cl : List (Str × Addr)) (fp : List Addr), STs (s.blk sh H scope (compEnvC scope cl C s.X.env) fp) ifs test)
    (he : ∀ (sh : Shared) (H : Hp) (C : Addr) (cl : List (Str × Addr)) (fp : List Addr), SE (s.blk sh H scope (compEnvC scope cl C s.X.env) fp) elt me)
    (hs : ∀ x, foldedSetIterable iter s.X.env x = pure x := by intro _; rfl) : SS s (.Assign [.Name y py] (.ListComp elt [⟨tg, iter, ifs, 0⟩] scope pos) spos) (mSetV s.base i (mComp src vs t test me)) :=
  PS.weak (lc_core2 hc hN hy hyl hsw hi ok hv hg ht he hs) fun _ _ _ q => setV_red q
theorem s_lcO {i : Nat} {y : Str} {py : Pos} (hc : s.X.calm = true) (hN : s.X.N.Nodup) (hy : s.X.N[i]? = some y) (hyl : s.X.env.scope.names.lookup y = some .local)
    (hsw : swapsWith (.ListComp elt [⟨tg, iter, ifs, 0⟩] scope pos) (some (.Name y py)) spos.line s.X.env = pure true) (hi : SI s tg iter src) (ok : BlkOk s.X.N s.X.env.scope scope own) (hv : own.map (·.2) = vs)
    (hg : ∀ (sh : Shared) (H : Hp) (C : Addr) (cl : List (Str × Addr)) (fp : List Addr), SG (s.blk sh H scope (compEnvC scope cl C s.X.env) fp) tg vs t)
    (ht : ∀ (sh : Shared) (H : Hp) (C : Addr) (cl : List (Str × Addr)) (fp : List Addr), STs (s.blk sh H scope (compEnvC scope cl C s.X.env) fp) ifs test)
    (he : ∀ (sh : Shared) (H : Hp) (C : Addr) (cl : List (Str × Addr)) (fp : List Addr), SE (s.blk sh H scope (compEnvC scope cl C s.X.env) fp) elt me)
    (hs : ∀ x, foldedSetIterable iter s.X.env x = pure x := by intro _; rfl) : SS s (.Assign [.Name y py] (.ListComp elt [⟨tg, iter, ifs, 0⟩] scope pos) spos) (mSetO s.base i (mComp src vs t test me)) :=
  PS.weak (lc_core2 hc hN hy hyl hsw hi ok hv hg ht he hs) fun _ _ _ q => setO_red q
end
end Dv

set_option maxHeartbeats 4000000
namespace Dv
open PySem PySem.Spec PyProof.Rows L2
set_option autoImplicit false

/-! ### defs -/
abbrev Fn := List D → Store → Res D
/-- an argument: no error; a fresh list is the callee's to read -/
def argsOk : List D → Bool
  | [] => true
  | .err _ _ :: _ => false
  | _ :: ds => argsOk ds
def Z0 : ZT := fun _ _ _ => False
def FOut (K : PySem.W.Frag) (cad : Nat → Addr) (A : Wy) (S : Store) (H : Hp) (Q : VK) (E : XK) : Res D → Prop
  | .ok d S' => ∀ v H', Pst K A S H S' H' → RpS K Z0 A S' H' v d → Fresh K A S' H H' v d → Q v H'
  | .exc c fs S' => ∀ dd H', Pst K A S H S' H' → ExAt K H' (Own A S') c dd fs → E (.ref (cad c)) dd H'
  | .bad => False
/-- a def's promise: its data's function -/
def spD (K : PySem.W.Frag) (cad : Nat → Addr) (m : Fn) : Sp := fun vs H Q E => ∃ S A ds, Cells K A S H ∧ RpL K Z0 A S H vs ds ∧ FOut K cad A S H Q E (m ds S)
/-- what stands around every call -/
structure Gd where
  P : Program
  w : World
  K : PySem.W.Frag
  mg : Str → Option Value
  base : Heap
  cad : Nat → Addr
def FnD (G : Gd) (k : Nat) (f : Addr) (n : Nat) (m : Fn) : Prop :=
  ∀ (A : Around) (outer : List Env) (s : Shared) (H : Hp) (us : List Value) (vs : List V) (Q : VK) (E : XK), Room k A → A.guards = some [] → Env0 G.P G.w G.K G.mg G.base A outer s H → Vals vs us → vs.length = n → spD G.K G.cad m vs H Q E →
    codeAny (model G.P G.w) A (.call (.ref f) ⟨us, []⟩) (CR (L2.CX G.P G.w) outer G.P G.w H s Q E) s
theorem FnD.mono {G : Gd} {j k : Nat} {f : Addr} {n : Nat} {m : Fn} (F : FnD G j f n m) (h : j ≤ k) : FnD G k f n m := fun A outer s H us vs Q E hr => F A outer s H us vs Q E (hr.mono h)

def coolA : List D → List D
  | [] => []
  | .loc n :: ds => .loc n :: coolA ds
  | d :: ds => cool d :: coolA ds
theorem coolA_len : ∀ ds : List D, (coolA ds).length = ds.length
  | [] => rfl
  | d :: ds => by cases d <;> simp [coolA, coolA_len ds]
theorem RpL.args {K : PySem.W.Frag} {Z : ZT} {A : Wy} {S : Store} {H : Hp} : ∀ {vs : List V} {ds : List D}, RpL K Z A S H vs ds → argsOk ds = true → RpL K Z0 A S H vs (coolA ds)
  | _, _, .nil, _ => .nil
  | _, d :: ds, .cons r t, h => by
    cases d with
    | err _ _ => cases h
    | loc n =>
      refine .cons ?_ (RpL.args t h)
      rcases r with r | r | ⟨_, _, _, z, _⟩
      · exact .inl r
      · cases r
      · cases z
    | _ => exact .cons (.inr (.inl (r.rp (fun n z => nomatch z) fun c fs z => nomatch z).cool)) (RpL.args t h)
/-- f(..) -/
def mCall (f : Fn) (n : Nat) (a : MA) : ME := fun ρ S => (a ρ S).bind fun ds S1 => if argsOk ds && decide (ds.length = n) then f (coolA ds) S1 else .bad

/-- the situation of a body: what a callee wants is there -/
structure Gs (G : Gd) (k : Nat) (s : Sit) : Prop where
  P : s.X.prog = G.P
  w : s.X.w = G.w
  K : s.X.K = G.K
  mg : s.X.mg = G.mg
  base : s.X.base = G.base
  cad : s.cad = G.cad
  room : Room k s.X.A
  guards : s.X.A.guards = some []
  calm : s.X.calm = true
  takes : Takes s.X s.W
  zn : ∀ c dd, ¬ s.Z .non c dd
theorem Gs.blk {G : Gd} {k : Nat} {s : Sit} (g : Gs G k s) (sh : Shared) (H : Hp) (scope : Scope) (cenv : Env) (fp : List Addr) : Gs G k (s.blk sh H scope cenv fp) :=
  ⟨g.P, g.w, g.K, g.mg, g.base, g.cad, g.room, g.guards, g.calm, takes0, g.zn⟩
theorem RpS.z0 {K : PySem.W.Frag} {Z : ZT} {A : Wy} {S : Store} {H : Hp} {v : V} {d : D} (r : RpS K Z0 A S H v d) : RpS K Z A S H v d := by
  rcases r with r | r | ⟨_, _, _, _, z, _⟩
  · exact .inl r
  · exact .inr (.inl r)
  · exact z.elim
section
variable {G : Gd} {s : Sit} {j k : Nat} {f : Addr} {n : Nat} {m : Fn} {x : Str} {e : Expr} {es : List Expr} {a : MA} {p pos : Pos}
theorem run_D {pins : List (Addr × Obj)} {σ : St} {H : Hp} {sh : Shared} {Q : VK} {us : List Value} {vs : List V} {E : XK} (g : Gs G k s) (F : FnD G j f n m) (hj : j ≤ k) (I : Inv s.X pins σ H sh) (r : Vals vs us) (hn : vs.length = n)
    (hE : ∀ c d H, E c d H → s.W c d σ H) (h : spD G.K G.cad m vs H Q E) : wpAny (model s.X.prog s.X.w) s.X.A (call (.ref f) us) (EP s.X pins σ Q) s.X.xe sh := by
  have e0 := I.env0
  have hF := F.mono hj s.X.A s.X.stack sh H us vs Q E g.room g.guards (by rw [← g.P, ← g.w, ← g.K, ← g.mg, ← g.base]; exact e0) r hn h
  rw [← g.P, ← g.w] at hF
  refine wpAny_call (codeAny_mono hF fun r s' hq => ?_)
  cases r with
  | error e => exact g.takes e s' (XE.of_call I hE hq)
  | ok fl =>
    cases fl with
    | ret u => exact I.after hq
    | next => exact False.elim hq
    | brk => exact False.elim hq
    | cont => exact False.elim hq
theorem call_red (g : Gs G k s) {σ : St} {H : Hp} {Q : VK} (q : tD s (mCall m n a) σ H Q) : tDa s a σ H fun vs H1 => vs.length = n ∧ spD G.K G.cad m vs H1 Q (fun c d H => s.W c d σ H) := by
  obtain ⟨ρ, S, A, c, q⟩ := q
  refine tDa_bind c q fun ds S1 vs H1 _ p1 c1 r1 q1 => ?_
  split at q1
  · rename_i ha
    simp only [Bool.and_eq_true, decide_eq_true_eq] at ha
    refine ⟨by rw [r1.length]; exact ha.2, S1, A, coolA ds, by rw [← g.K]; exact c1.cells, by rw [← g.K]; exact r1.args ha.1, ?_⟩
    cases e : m (coolA ds) S1 with
    | ok d S2 => rw [e] at q1; intro v H2 p2 r2 f2; rw [← g.K] at p2 r2 f2; exact q1 v H2 p2 r2.z0 f2
    | exc x fs S2 => rw [e] at q1; intro dd H2 p2 z; rw [← g.K] at p2 z; rw [← g.cad]; exact q1 dd H2 p2 z
    | bad => rw [e] at q1; exact q1
  · exact q1.elim
/-- f(e, ..), f a def -/
theorem se_call (g : Gs G k s) (F : FnD G j f n m) (hj : j ≤ k) (hg : Gl s.X x) (hm : G.mg x = some (.ref f)) (hk : PySem.W.keepIn G.K (.ref f) = true) (ha : SA s (e :: es) a)
    (hdb : (x == ("__debug__" : Str)) = false := by decide) (he : starEach (e :: es) s.X.env = (false, eval e s.X.env) :: starEach es s.X.env := by rfl) (hpl : (backTo pos (starEach es s.X.env)).any (·.1) = false := by rfl) :
    SE s (.Call (.Name x p) (e :: es) [] pos) (mCall m n a) := by
  refine ⟨fun pins sh σ H Q I q => ?_⟩
  refine wpAny_Call_Name_kw (ld_glob I hg (by rw [g.mg]; exact hm) ?_ hdb)
  refine PySem.W.callWith_K (h₀ := s.X.base) I.ok.mod.kin (by rw [g.K]; exact hk) (thn (ha.run pos pins sh σ H _ I (call_red g q)) fun us s1 ⟨vs, H1, I1, r, q1⟩ => ⟨I1.kIn, ?_⟩) he hpl
  exact run_D g F hj I1 r q1.1 (fun _ _ _ h => h) q1.2
end

/-! ### a def by its body -/
def retD (b : Nat) (d : D) (S : Store) : Option D := match d with
  | .loc n => if n < b then some (.loc n) else match S[n]? with
    | some (some (.lst _ xs)) => some (.lst true xs)
    | _ => none
  | .err _ _ => none
  | d => some d
def mDef (N : Nat) (b : Nat → MS) : Fn := fun ds S => match b S.length (ds.map some ++ List.replicate (N - ds.length) none) (S ++ List.replicate N none) with
  | .rt d S' => match retD S.length d S' with
    | some d' => .ok d' (S'.take S.length)
    | none => .bad
  | .nx _ S' => .ok .non (S'.take S.length)
  | .exc c fs _ S' => .exc c fs (S'.take S.length)
  | _ => .bad
section
variable {K : PySem.W.Frag} {A A' : Wy} {S S' : Store} {H H' : Hp} {N b : Nat}
theorem nones_get {S : Store} {N n : Nat} {d : D} (h : (S ++ List.replicate N none)[n]? = some (some d)) : S[n]? = some (some d) := by
  by_cases hn : n < S.length
  · rw [List.getElem?_append_left hn] at h; exact h
  · rw [List.getElem?_append_right (by omega), List.getElem?_replicate] at h
    split at h <;> cases h
theorem nones_own : OwC A (S ++ List.replicate N none) = OwC A S := by
  funext a
  refine propext ⟨?_, ?_⟩
  · rintro ⟨n, d, h, e⟩
    exact ⟨n, d, nones_get h, e⟩
  · rintro ⟨n, d, h, e⟩
    refine ⟨n, d, ?_, e⟩
    rw [List.getElem?_append_left]
    · exact h
    · rcases Nat.lt_or_ge n S.length with z | z
      · exact z
      · rw [List.getElem?_eq_none z] at h; cases h
theorem nones_own2 : Own A (S ++ List.replicate N none) = Own A S := by
  unfold Own
  rw [nones_own]
theorem Cells.nones (c : Cells K A S H) : Cells K A (S ++ List.replicate N none) H :=
  ⟨fun n d h => by rw [nones_own2]; exact c.at_ n d (nones_get h), fun n m d e h h' z => c.inj n m d e (nones_get h) (nones_get h') z, c.phs, fun a z => by rw [nones_own]; exact c.apart a z⟩
theorem RpS.nones {Z : ZT} {v : V} {d : D} (r : RpS K Z A S H v d) : RpS K Z A (S ++ List.replicate N none) H v d := by
  have o : Own A (S ++ List.replicate N none) = Own A S := nones_own2
  rcases r with ⟨n, e, h1, h2, h3⟩ | r | ⟨c, fs, dd, h1, h2, h3⟩
  · refine .inl ⟨n, e, h1, h2, ?_⟩
    rw [List.getElem?_append_left]
    · exact h3
    · rcases Nat.lt_or_ge n S.length with z | z
      · exact z
      · rw [List.getElem?_eq_none z] at h3; cases h3
  · exact .inr (.inl (by rw [o]; exact r))
  · exact .inr (.inr ⟨c, fs, dd, h1, h2, by rw [o]; exact h3⟩)
/-- the cells of the caller alone -/
theorem take_get {n : Nat} {d : D} (h : (S'.take b)[n]? = some (some d)) : n < b ∧ S'[n]? = some (some d) := by
  rw [List.getElem?_take] at h
  split at h
  · exact ⟨‹_›, h⟩
  · cases h
theorem take_ownC (low : ∀ n, n < b → A'.loc n = A.loc n) {x : Addr} (z : OwC A (S'.take b) x) : OwC A' S' x := by
  obtain ⟨n, d, h, rfl⟩ := z
  obtain ⟨h1, h2⟩ := take_get h
  exact ⟨n, d, h2, low n h1⟩
theorem take_own (low : ∀ n, n < b → A'.loc n = A.loc n) (ph : A'.ph = A.ph) {x : Addr} (z : Own A (S'.take b) x) : Own A' S' x := by
  rcases z with z | z
  · exact .inl (take_ownC low z)
  · exact .inr (by rw [ph]; exact z)
theorem Cells.take (low : ∀ n, n < b → A'.loc n = A.loc n) (ph : A'.ph = A.ph) (c : Cells K A' S' H') : Cells K A (S'.take b) H' := by
  refine ⟨fun n d h => ?_, fun n m d e h h' z => ?_, fun a z => c.phs a (by rw [ph]; exact z), fun a z w => c.apart a (by rw [ph]; exact z) (take_ownC low w)⟩
  · obtain ⟨h1, h2⟩ := take_get h
    rw [← low n h1]
    exact (c.at_ n d h2).own c.owns fun x z => take_own low ph z
  · obtain ⟨h1, h2⟩ := take_get h
    obtain ⟨h3, h4⟩ := take_get h'
    exact c.inj n m d e h2 h4 (by rw [low n h1, low m h3]; exact z)
/-- behind a body: as behind a call -/
theorem Pss.done (p : Pss S.length A (S ++ List.replicate N none) H A' S' H') (c : Cells K A' S' H') : Pst K A S H (S'.take S.length) H' where
  ext := by have := p.ext; rw [nones_own] at this; exact this
  lives := fun n => by
    by_cases hn : n < S.length
    · rw [List.getElem?_take, if_pos hn, p.lives n hn, List.getElem?_append_left hn]
    · rw [List.getElem?_take, if_neg hn, List.getElem?_eq_none (by omega)]
  len := by rw [List.length_take, p.len, List.length_append]; omega
  cells := c.take p.low p.ph
end
section
variable {G : Gd} {k : Nat} {f : Addr} {x qual : Str} {st : Stmt} {fd : FuncData} {N ps : List Str} {b : Nat → MS}
/-- the situation of a def's body -/
def sitOf (G : Gd) (N : List Str) (qual : Str) (scope : Scope) (f : Addr) (cd : Value) (A : Around) (outer : List Env) (s : Shared) (H : Hp) (E : XK) (base : Nat) : Sit where
  X := cxOf (L2.CX G.P G.w) G.P G.w G.K G.mg G.base N qual scope f cd A outer s H E
  base := base
  W := fun cls d _ H => E cls d H
  Z := Z0
  cad := G.cad
/-- what is known of the code object's place -/
def CdAt (K : PySem.W.Frag) (f : Addr) (qual : Str) (cdv : Value) : Prop := ∃ oc od fd osl, K.lookup f = some ⟨oc, od, .func fd, osl⟩ ∧ fd.code = cdv ∧ PySem.W.codeIn K cdv qual = true
theorem fnD_ofW (F : FunD G.K x qual (defArgs st) (defBody st) (defScope st) [] [] f fd) (S : FnScope N ps (defScope st)) (hb : Binds G.K fd ps [])
    (hbody : ∀ (cdv : Value) (A : Around) (outer : List Env) (s : Shared) (H : Hp) (E : XK) (base : Nat), CdAt G.K f qual cdv → Gs G k (sitOf G N qual (defScope st) f cdv A outer s H E base) →
      SSs (sitOf G N qual (defScope st) f cdv A outer s H E base) (defBody st) (b base)) : FnD G (k + 1) f ps.length (mDef N.length b) := by
  obtain ⟨oc, od, dV, kV, doc, pm, an, cdv, ct, osl, rfl, lk, hcd, _, _⟩ := F.ex
  intro A outer s H us vs Q E hr hgd e0 r hn hsp
  have hl : us.length = ps.length := by rw [← r.length]; exact hn
  have KX : G.K.In s.heap := e0.mod.kin.keeps fun b o e => (e0.bs b o e).1
  have lim : s.heap.NoLimit := e0.mod.nolimit.keeps fun b o e => (e0.bs b o e).1
  have hkind : ∀ y ∈ ps.zip us, (defScope st).names.lookup y.1 = some .local ∨ ((defScope st).names.lookup y.1 = some .cell ∧ ((cellsFrom (s.heap.objs.size + 1) (defScope st).names []).lookup y.1).isSome = true) := fun ⟨n, v⟩ hy => by
    rcases S.par n (List.of_mem_zip hy).1 with q | q
    · exact .inl q
    · exact .inr ⟨q, PySem.W.cellsFrom_some _ _ _ (.inl q)⟩
  have hbind : BindsTo s (PySem.W.fnOf x qual (defArgs st) (defBody st) (defScope st) dV kV doc pm an cdv ct) ⟨us, []⟩ (ps.zip us) := by
    have := hb s us KX (by rw [List.append_nil]; exact hl)
    rw [List.append_nil] at this
    exact this
  refine codeAny_call_function hr.depth (KX _ _ lk) rfl S.co S.gen rfl (PySem.W.codeRec_of KX hcd) (hbind _ _ _ _ ?_)
  refine wpAny_newFunctionEnv_cells S.kind hkind fun env he s1 x => ?_
  subst he
  refine ⟨lim.keeps x.toInCall.keep, codeAny_func ?_⟩
  obtain ⟨S0, A0, ds, c0, r0, q0⟩ := hsp
  have I : Inv (cxOf (L2.CX G.P G.w) G.P G.w G.K G.mg G.base N qual (defScope st) f cdv A outer s H E) [] (L2.start N vs) H s1 := inv_start S hr.hd e0 hn r x
  have gs : Gs G k (sitOf G N qual (defScope st) f cdv A outer s H E S0.length) :=
    ⟨rfl, rfl, rfl, rfl, rfl, rfl, hr.deeper _, hgd, rfl, takes_of rfl rfl rfl rfl, fun _ _ z => z⟩
  have ht := hbody cdv A outer s H E S0.length ⟨_, _, _, _, lk, rfl, hcd⟩ gs
  have hpl : ps.length ≤ N.length := by have := congrArg List.length S.pre; rw [List.length_take] at this; omega
  have dl : ds.length = ps.length := by rw [← r0.length]; exact hn
  -- the slots at the entry
  have cn : Cn (sitOf G N qual (defScope st) f cdv A outer s H E S0.length) (ds.map some ++ List.replicate (N.length - ds.length) none) (S0 ++ List.replicate N.length none) A0 (L2.start N vs) H := by
    have rl : ∀ {vs : List V} {ds : List D}, RpL G.K Z0 A0 S0 H vs ds → ∀ (i : Nat) (d : D), ds[i]? = some d → ∃ v, vs[i]? = some v ∧ RpS G.K Z0 A0 S0 H v d := by
      intro vs ds r
      induction r with
      | nil => intro i d h; simp at h
      | cons r t ih =>
        intro i d h
        cases i with
        | zero => simp at h; subst h; exact ⟨_, rfl, r⟩
        | succ i => obtain ⟨v, h1, h2⟩ := ih i d (by simpa using h); exact ⟨v, by simpa using h1, h2⟩
    have get : ∀ (i : Nat) (d : D), (ds.map some ++ List.replicate (N.length - ds.length) none)[i]? = some (some d) → i < ds.length ∧ ds[i]? = some d := fun i d h => by
      by_cases hi : i < ds.length
      · rw [List.getElem?_append_left (by simpa using hi), List.getElem?_map] at h
        cases e : ds[i]? with
        | none => rw [e] at h; cases h
        | some y => rw [e] at h; cases h; exact ⟨hi, rfl⟩
      · rw [List.getElem?_append_right (by simpa using hi), List.getElem?_replicate] at h
        split at h <;> cases h
    refine ⟨fun i d h => ?_, c0.nones, fun i n h => ?_, ?_, ?_⟩
    · obtain ⟨hi, hd⟩ := get i d h
      obtain ⟨v, h1, h2⟩ := rl r0 i d hd
      refine ⟨v, ?_, h2.nones⟩
      unfold L2.start
      rw [List.getElem?_append_left (by simp; omega), List.getElem?_map, h1]
      rfl
    · obtain ⟨hi, hd⟩ := get i _ h
      obtain ⟨v, h1, h2⟩ := rl r0 i _ hd
      rcases h2 with ⟨m, e, h3, h4, h5⟩ | h2 | ⟨_, _, _, _, z, _⟩
      · cases h3
        left
        rcases Nat.lt_or_ge n S0.length with z | z
        · exact z
        · rw [List.getElem?_eq_none z] at h5; cases h5
      · cases h2
      · exact z.elim
    · unfold L2.start
      simp [r0.length]
    · show S0.length + _ ≤ _
      simp only [List.length_append, List.length_map, List.length_replicate]
      omega
  refine wpAny_mono (ht.run [] s1 (L2.start N vs) H { nx := fun _ H' => Q .non H', rt := Q } I ⟨_, _, A0, cn, ?_⟩) (fun fl s' hs => ?_) fun e s' hs => hs
  · -- what the body's end says
    unfold mDef at q0
    have o0 : OwC A0 (S0 ++ List.replicate N.length none) = OwC A0 S0 := nones_own
    cases eb : b S0.length (ds.map some ++ List.replicate (N.length - ds.length) none) (S0 ++ List.replicate N.length none) with
    | bk _ _ => rw [eb] at q0; exact q0.elim
    | ct _ _ => rw [eb] at q0; exact q0.elim
    | bad => rw [eb] at q0; exact q0.elim
    | nx ρ1 S1 =>
      rw [eb] at q0
      intro σ1 H1 A1 p1 c1
      exact q0 .non H1 (p1.done c1.cells) (.inr (.inl .non)) (.old rfl)
    | exc c fs ρ1 S1 =>
      rw [eb] at q0
      intro dd σ1 H1 A1 p1 c1 ex
      refine q0 dd H1 (p1.done c1.cells) (ex.ext c1.cells.owns (.refl _ _) fun x z => .inl (take_own p1.low p1.ph z))
    | rt d S1 =>
      rw [eb] at q0
      dsimp only at q0
      intro v H1 A1 p1 c1 r1 f1
      have done : Pst G.K A0 S0 H (S1.take S0.length) H1 := p1.done c1
      have shr : ∀ x, Own A0 (S1.take S0.length) x → Own A1 S1 x := fun x z => take_own p1.low p1.ph z
      have simple : ∀ d', plain d = true → retD S0.length d S1 = some d' → d' = d ∧ RpS G.K Z0 A0 (S1.take S0.length) H1 v d ∧ Fresh G.K A0 (S1.take S0.length) H H1 v d := fun d' hp hd => by
        have : retD S0.length d S1 = some d := by cases d <;> first | rfl | (cases hp; done)
        rw [this] at hd
        cases hd
        refine ⟨rfl, .inr (.inl ((r1.plain hp).own c1.owns shr)), fun z => ?_⟩
        obtain ⟨a, e1, e2, e3, e4⟩ := f1 z
        have ow2 : Owns H1 (fun x => Own A1 S1 x ∨ x = a) := fun x w => by
          rcases w with w | w
          · exact c1.owns x w
          · subst w; exact e3.mu
        refine ⟨a, e1, e2, e3.own ow2 fun x w => w.imp (shr x) id, fun n e h => ?_⟩
        obtain ⟨h1, h2⟩ := take_get h
        rw [← p1.low n h1]
        exact (e4 n e h2).own ow2 fun x w => w.imp (shr x) id
      cases hd : retD S0.length d S1 with
      | none => rw [hd] at q0; exact q0.elim
      | some d' =>
        rw [hd] at q0
        by_cases hp : plain d = true
        · obtain ⟨rfl, h2, h3⟩ := simple d' hp hd
          exact q0 v H1 done h2 h3
        · cases d with
          | err _ _ => cases hd
          | loc n =>
            rcases r1 with ⟨m, e, h3, rfl, h5⟩ | r1 | ⟨_, _, _, z, _⟩
            · cases h3
              unfold retD at hd
              dsimp only at hd
              split at hd
              · rename_i hn
                cases hd
                refine q0 _ H1 done (.inl ⟨n, e, rfl, by rw [p1.low n hn], ?_⟩) (.old rfl)
                rw [List.getElem?_take, if_pos hn]; exact h5
              · rename_i hn
                split at hd
                · rename_i fl xs hx
                  cases hd
                  have ce := c1.at_ n _ hx
                  have notown : ¬ Own A0 (S1.take S0.length) (A1.loc n) := by
                    rintro (⟨m, e', h, z⟩ | z)
                    · obtain ⟨h1, h2⟩ := take_get h
                      have := c1.inj m n e' _ h2 hx (by rw [p1.low m h1]; exact z)
                      omega
                    · exact c1.apart _ (by rw [p1.ph]; exact z) ⟨n, _, hx, rfl⟩
                  have hfree : H (A1.loc n) = none := by
                    rcases p1.grow (A1.loc n) ⟨n, _, hx, rfl⟩ with z | z
                    · exfalso
                      rw [o0] at z
                      obtain ⟨m, e', h, z⟩ := z
                      have hm : m < S0.length := by
                        rcases Nat.lt_or_ge m S0.length with y | y
                        · exact y
                        · rw [List.getElem?_eq_none y] at h; cases h
                      have l := p1.lives m hm
                      rw [List.getElem?_append_left hm, h] at l
                      obtain ⟨d2, hd2⟩ := live_iff.mp l
                      have := c1.inj m n d2 _ hd2 hx (by rw [p1.low m hm]; exact z)
                      omega
                    · exact z
                  cases ce with
                  | lst h4 h6 =>
                    refine q0 _ H1 done (.inr (.inl (.lst notown h4 (h6.ext c1.owns (.refl _ _) fun x z => .inl (shr x z))))) fun _ => ⟨A1.loc n, rfl, hfree, ?_, fun m e' h => ?_⟩
                    · refine .lst h4 (h6.ext c1.owns (.refl _ _) fun x z => .inl ?_)
                      rcases z with z | z
                      · exact shr x z
                      · rw [z]; exact .inl ⟨n, _, hx, rfl⟩
                    · obtain ⟨h1, h2⟩ := take_get h
                      rw [← p1.low m h1]
                      refine (c1.at_ m e' h2).own c1.owns fun x z => ?_
                      rcases z with z | z
                      · exact shr x z
                      · rw [z]; exact .inl ⟨n, _, hx, rfl⟩
                · cases hd
            · cases r1
            · cases z
          | _ => exact absurd rfl hp
  · have fin : ∀ {σ' : St} {H' : Hp} {v : V} {u : Value}, Inv (cxOf (L2.CX G.P G.w) G.P G.w G.K G.mg G.base N qual (defScope st) f cdv A outer s H E) [] σ' H' s' → RelV v u → Q v H' → CE outer G.P G.w H s Q u s' :=
      fun {σ' H' v u} J rv q => ⟨v, H', J.os, J.bare, J.base, J.hok, rv, q⟩
    cases fl with
    | ret u =>
      obtain ⟨v, σ', H', J, rv, q⟩ := hs
      exact fin J rv q
    | next =>
      obtain ⟨σ', H', J, q⟩ := hs
      exact fin (v := V.non) (u := Value.none) J rfl q
    | brk =>
      obtain ⟨_, _, _, q⟩ := hs
      exact False.elim q
    | cont =>
      obtain ⟨_, _, _, q⟩ := hs
      exact False.elim q
theorem fnD_of (F : FunD G.K x qual (defArgs st) (defBody st) (defScope st) [] [] f fd) (S : FnScope N ps (defScope st)) (hb : Binds G.K fd ps [])
    (hbody : ∀ (cdv : Value) (A : Around) (outer : List Env) (s : Shared) (H : Hp) (E : XK) (base : Nat), Gs G k (sitOf G N qual (defScope st) f cdv A outer s H E base) →
      SSs (sitOf G N qual (defScope st) f cdv A outer s H E base) (defBody st) (b base)) : FnD G (k + 1) f ps.length (mDef N.length b) :=
  fnD_ofW F S hb fun cdv A outer s H E base _ g => hbody cdv A outer s H E base g
end
end Dv

set_option maxHeartbeats 4000000
namespace Dv
open PySem PySem.Spec PyProof.Rows L2
set_option autoImplicit false

/-! ### built-in calls -/
def cLen (S : Store) (ds : List D) : Option D := match ds with
  | [d] => match vw S d with
    | .str x => if x.length ≤ LINE then some (.int x.length) else none
    | .tup xs => some (.int xs.length)
    | .lst _ xs => some (.int xs.length)
    | .rol xs => some (.int xs.length)
    | _ => none
  | _ => none
def cAbs (S : Store) (ds : List D) : Option D := match ds with
  | [.int i] => some (.int (if i < 0 then -i else i))
  | _ => none
def cMax2 (S : Store) (ds : List D) : Option D := match ds with
  | [.int i, .int j] => some (.int (if j > i then j else i))
  | _ => none
def cMin2 (S : Store) (ds : List D) : Option D := match ds with
  | [.int i, .int j] => some (.int (if j < i then j else i))
  | _ => none
def cInt (S : Store) (ds : List D) : Option D := match ds with
  | [.int i] => some (.int i)
  | [.bl b] => some (.int (if b then 1 else 0))
  | _ => none
def cBool (S : Store) (ds : List D) : Option D := match ds with
  | [.int i] => some (.bl (i != 0))
  | [.bl b] => some (.bl b)
  | _ => none
def intsOf : List D → Option (List Int)
  | [] => some []
  | .int i :: ds => (intsOf ds).map (i :: ·)
  | _ => none
def blsOf : List D → Option (List Bool)
  | [] => some []
  | .bl i :: ds => (blsOf ds).map (i :: ·)
  | _ => none
theorem intsOf_eq : ∀ {ds : List D} {ns : List Int}, intsOf ds = some ns → ds = ns.map D.int
  | [], _, h => by cases h; rfl
  | .int i :: ds, _, h => by
    simp only [intsOf, Option.map_eq_some_iff] at h
    obtain ⟨ns, h1, rfl⟩ := h
    rw [intsOf_eq h1]; rfl
theorem blsOf_eq : ∀ {ds : List D} {ns : List Bool}, blsOf ds = some ns → ds = ns.map D.bl
  | [], _, h => by cases h; rfl
  | .bl i :: ds, _, h => by
    simp only [blsOf, Option.map_eq_some_iff] at h
    obtain ⟨ns, h1, rfl⟩ := h
    rw [blsOf_eq h1]; rfl
/-- the items of one list -/
def listArg (S : Store) (ds : List D) : Option (List D) := match ds with
  | [d] => lstOf (vw S d)
  | _ => none
def cSum (S : Store) (ds : List D) : Option D := ((listArg S ds).bind intsOf).map fun ns => .int ns.sum
def cAll (S : Store) (ds : List D) : Option D := ((listArg S ds).bind blsOf).map fun ns => .bl (ns.all id)
def cAny (S : Store) (ds : List D) : Option D := ((listArg S ds).bind blsOf).map fun ns => .bl (ns.any id)
def cTuple (S : Store) (ds : List D) : Option D := match ds with
  | [d] => match vw S d with
    | .tup xs => some (.tup xs)
    | .lst _ xs => some (.tup xs)
    | .rol xs => some (.tup xs)
    | _ => none
  | _ => none
def cList (S : Store) (ds : List D) : Option D := match ds with
  | [d] => match vw S d with
    | .tup xs => some (.lst true xs)
    | .lst _ xs => some (.lst true xs)
    | .rol xs => some (.lst true xs)
    | _ => none
  | _ => none
section
variable {s : Sit}
theorem int_of {A : Wy} {S : Store} {H : Hp} {v : V} {i : Int} (r : RpS s.X.K s.Z A S H v (.int i)) : v = .int i := by
  rcases r with ⟨_, _, z, _⟩ | r | ⟨_, _, _, z, _⟩
  · cases z
  · cases r; rfl
  · cases z
theorem sem_len : CallSem s cLen (fun xs H Q => ∃ x n, xs = [x] ∧ LenV s.X.K x H n ∧ Q (.int n) H) := by
  intro A S H vs ds x Q c r hf q
  unfold cLen at hf
  split at hf
  · rename_i d
    obtain ⟨v, rfl, rr⟩ := r.one
    split at hf
    · rename_i y e
      split at hf
      · rename_i hl
        cases hf
        have := (rr.as c e).str
        subst this
        exact ⟨_, y.length, rfl, ⟨by rw [line_eq]; exact hl, rfl⟩, old_of (.int _) rfl q⟩
      · cases hf
    · rename_i ys e
      cases hf
      obtain ⟨a, xs, rfl, h1, h2⟩ := (rr.as c e).tup
      exact ⟨_, ys.length, rfl, .inr ⟨xs, h1, h2.length.symm⟩, old_of (.int _) rfl q⟩
    · rename_i f ys e
      cases hf
      obtain ⟨a, xs, rfl, h1, h2⟩ := (rr.as c e).lst
      exact ⟨_, ys.length, rfl, .inl ⟨xs, .of h1, h2.length.symm⟩, old_of (.int _) rfl q⟩
    · rename_i ys e
      cases hf
      obtain ⟨a, xs, rfl, h1, h2⟩ := (rr.as c e).list rfl
      exact ⟨_, ys.length, rfl, .inl ⟨xs, h1, h2.length.symm⟩, old_of (.int _) rfl q⟩
    · cases hf
  · cases hf
theorem sem_abs : CallSem s cAbs (fun xs H Q => ∃ i, xs = [.int i] ∧ Q (.int (if i < 0 then -i else i)) H) := by
  intro A S H vs ds x Q c r hf q
  unfold cAbs at hf
  split at hf
  · cases hf; exact ⟨_, r.int1, old_of (.int _) rfl q⟩
  · cases hf
theorem sem_max2 : CallSem s cMax2 (fun xs H Q => ∃ i j, xs = [.int i, .int j] ∧ Q (.int (if j > i then j else i)) H) := by
  intro A S H vs ds x Q c r hf q
  unfold cMax2 at hf
  split at hf
  · cases hf; exact ⟨_, _, r.int2, old_of (.int _) rfl q⟩
  · cases hf
theorem sem_min2 : CallSem s cMin2 (fun xs H Q => ∃ i j, xs = [.int i, .int j] ∧ Q (.int (if j < i then j else i)) H) := by
  intro A S H vs ds x Q c r hf q
  unfold cMin2 at hf
  split at hf
  · cases hf; exact ⟨_, _, r.int2, old_of (.int _) rfl q⟩
  · cases hf
theorem RpL.bl1 {K : PySem.W.Frag} {Z : ZT} {A : Wy} {S : Store} {H : Hp} {vs : List V} {j : Bool} (r : RpL K Z A S H vs [.bl j]) : vs = [.bl j] := by
  cases r with
  | cons r t =>
    cases t
    rcases r with ⟨_, _, z, _⟩ | r | ⟨_, _, _, z, _⟩
    · cases z
    · cases r; rfl
    · cases z
theorem sem_int : CallSem s cInt (fun xs H Q => (∃ i, xs = [.int i] ∧ Q (.int i) H) ∨ ∃ k, xs = [.bl k] ∧ Q (.int (if k then 1 else 0)) H) := by
  intro A S H vs ds x Q c r hf q
  unfold cInt at hf
  split at hf
  · cases hf; exact .inl ⟨_, r.int1, old_of (.int _) rfl q⟩
  · cases hf; exact .inr ⟨_, r.bl1, old_of (.int _) rfl q⟩
  · cases hf
theorem sem_bool : CallSem s cBool (fun xs H Q => (∃ i, xs = [.int i] ∧ Q (.bl (i != 0)) H) ∨ ∃ k, xs = [.bl k] ∧ Q (.bl k) H) := by
  intro A S H vs ds x Q c r hf q
  unfold cBool at hf
  split at hf
  · cases hf; exact .inl ⟨_, r.int1, old_of (.bl _) rfl q⟩
  · cases hf; exact .inr ⟨_, r.bl1, old_of (.bl _) rfl q⟩
  · cases hf
theorem listArg_ok {A : Wy} {S : Store} {H : Hp} {vs : List V} {ds xs : List D} (c : Cells s.X.K A S H) (r : RpL s.X.K s.Z A S H vs ds) (h : listArg S ds = some xs) : ∃ a ys, vs = [.ref a] ∧ SqL s.X.K H a ys ∧ RpAll s.X.K H (Own A S) ys xs := by
  unfold listArg at h
  split at h
  · rename_i d
    obtain ⟨v, rfl, rr⟩ := r.one
    have n : ∀ k fs, vw S d ≠ .err k fs := fun k fs z => by rw [z] at h; cases h
    obtain ⟨a, ys, rfl, h1, h2⟩ := (rr.seen c n).list h
    exact ⟨a, ys, rfl, h1, h2⟩
  · cases h
theorem sem_sum : CallSem s cSum (rSum s.X.K) := by
  intro A S H vs ds x Q c r hf q
  simp only [cSum, Option.map_eq_some_iff, Option.bind_eq_some_iff] at hf
  obtain ⟨ns, ⟨xs, h1, h2⟩, rfl⟩ := hf
  obtain ⟨a, ys, rfl, h3, h4⟩ := listArg_ok c r h1
  rw [intsOf_eq h2] at h4
  rw [h4.ints] at h3
  exact ⟨a, ns, rfl, h3, old_of (.int _) rfl q⟩
theorem sem_all : CallSem s cAll (rAll s.X.K) := by
  intro A S H vs ds x Q c r hf q
  simp only [cAll, Option.map_eq_some_iff, Option.bind_eq_some_iff] at hf
  obtain ⟨ns, ⟨xs, h1, h2⟩, rfl⟩ := hf
  obtain ⟨a, ys, rfl, h3, h4⟩ := listArg_ok c r h1
  rw [blsOf_eq h2] at h4
  rw [h4.bls] at h3
  exact ⟨a, ns, rfl, h3, old_of (.bl _) rfl q⟩
theorem sem_any : CallSem s cAny (rAny s.X.K) := by
  intro A S H vs ds x Q c r hf q
  simp only [cAny, Option.map_eq_some_iff, Option.bind_eq_some_iff] at hf
  obtain ⟨ns, ⟨xs, h1, h2⟩, rfl⟩ := hf
  obtain ⟨a, ys, rfl, h3, h4⟩ := listArg_ok c r h1
  rw [blsOf_eq h2] at h4
  rw [h4.bls] at h3
  exact ⟨a, ns, rfl, h3, old_of (.bl _) rfl q⟩
theorem sem_tuple : CallSem s cTuple (fun xs H Q => ∃ p ys, xs = [.ref p] ∧ ((SqL s.X.K H p ys ∧ ∀ l, H l = none → Q (.ref l) (upd H l (.tup ys))) ∨ (SqT s.X.K H p ys ∧ Q (.ref p) H))) := by
  intro A S H vs ds x Q c r hf q
  unfold cTuple at hf
  split at hf
  · rename_i d
    obtain ⟨v, rfl, rr⟩ := r.one
    split at hf
    · rename_i ys e
      cases hf
      obtain ⟨a, xs, rfl, h1, h2⟩ := (rr.as c e).tup
      exact ⟨a, xs, rfl, .inr ⟨h1, old_of (.tup h1 h2) rfl q⟩⟩
    · rename_i f ys e
      cases hf
      obtain ⟨a, xs, rfl, h1, h2⟩ := (rr.as c e).lst
      exact ⟨a, xs, rfl, .inl ⟨.of h1, new_tup c h2 q⟩⟩
    · rename_i ys e
      cases hf
      obtain ⟨a, xs, rfl, h1, h2⟩ := (rr.as c e).list rfl
      exact ⟨a, xs, rfl, .inl ⟨h1, new_tup c h2 q⟩⟩
    · cases hf
  · cases hf
theorem sem_list : CallSem s cList (fun xs H Q => ∃ p ys, xs = [.ref p] ∧ (SqL s.X.K H p ys ∨ SqT s.X.K H p ys) ∧ ∀ l, H l = none → Q (.ref l) (upd H l (.lst ys))) := by
  intro A S H vs ds x Q c r hf q
  unfold cList at hf
  split at hf
  · rename_i d
    obtain ⟨v, rfl, rr⟩ := r.one
    split at hf
    · rename_i ys e
      cases hf
      obtain ⟨a, xs, rfl, h1, h2⟩ := (rr.as c e).tup
      exact ⟨a, xs, rfl, .inr h1, new_lst c h2 q⟩
    · rename_i f ys e
      cases hf
      obtain ⟨a, xs, rfl, h1, h2⟩ := (rr.as c e).lst
      exact ⟨a, xs, rfl, .inl (.of h1), new_lst c h2 q⟩
    · rename_i ys e
      cases hf
      obtain ⟨a, xs, rfl, h1, h2⟩ := (rr.as c e).list rfl
      exact ⟨a, xs, rfl, .inl h1, new_lst c h2 q⟩
    · cases hf
  · cases hf
/-! ### items, slices -/
def dIx (S : Store) (d e : D) : Option D := match vw S d, vw S e with
  | .tup xs, .int i => atI xs i
  | .lst _ xs, .int i => (atI xs i).map cool
  | .rol xs, .int i => atI xs i
  | .str x, .int i => if x.length ≤ LINE then (atI x.cps.toList i).map fun c => .str ⟨#[c]⟩ else none
  | _, _ => none
theorem atI_rp {K : PySem.W.Frag} {H : Hp} {O : Ow} {xs : List V} {ds : List D} {i : Int} {d : D} (r : RpAll K H O xs ds) (h : atI ds i = some d) : ∃ v, atI xs i = some v ∧ Rp K H O v d := by
  unfold atI at h ⊢
  rw [r.length]
  cases e : ixN ds.length i with
  | none => rw [e] at h; cases h
  | some j =>
    rw [e] at h
    exact r.get h
/-- items of what stands are no more fresh -/
def dIx' (S : Store) (d e : D) : Option D := (dIx S d e).map cool
theorem isNew_cool (d : D) : isNew (cool d) = false := by cases d <;> rfl
theorem sem_ix : OpSem s dIx' (rIx s.X.K) := by
  intro A S H v w d e x Q c rd re hf q
  simp only [dIx', Option.map_eq_some_iff] at hf
  obtain ⟨y, hf, rfl⟩ := hf
  unfold dIx at hf
  split at hf
  · rename_i ys i h1 h2
    obtain ⟨a, xs, rfl, h3, h4⟩ := (rd.as c h1).tup
    have e2 := (re.as c h2).int
    subst e2
    obtain ⟨u, h5, h6⟩ := atI_rp h4 hf
    exact .inr (.inl ⟨a, xs, i, u, rfl, rfl, h3, h5, old_of h6.cool (isNew_cool _) q⟩)
  · rename_i f ys i h1 h2
    simp only [Option.map_eq_some_iff] at hf
    obtain ⟨y', hf, rfl⟩ := hf
    obtain ⟨a, xs, rfl, h3, h4⟩ := (rd.as c h1).lst
    have e2 := (re.as c h2).int
    subst e2
    obtain ⟨u, h5, h6⟩ := atI_rp h4 hf
    exact .inl ⟨a, xs, i, u, rfl, rfl, .of h3, h5, old_of h6.cool.cool (isNew_cool _) q⟩
  · rename_i ys i h1 h2
    obtain ⟨a, xs, rfl, h3, h4⟩ := (rd.as c h1).list rfl
    have e2 := (re.as c h2).int
    subst e2
    obtain ⟨u, h5, h6⟩ := atI_rp h4 hf
    exact .inl ⟨a, xs, i, u, rfl, rfl, h3, h5, old_of h6.cool (isNew_cool _) q⟩
  · rename_i x i h1 h2
    split at hf
    · rename_i hl
      simp only [Option.map_eq_some_iff] at hf
      obtain ⟨y', hf, rfl⟩ := hf
      have e1 := (rd.as c h1).str
      have e2 := (re.as c h2).int
      subst e1 e2
      exact .inr (.inr ⟨x, i, y', rfl, rfl, by rw [line_eq]; exact hl, hf, old_of (.str _) rfl q⟩)
    · cases hf
  · cases hf
end
/-- an optional part of a slice -/
abbrev MO := Rho → Store → Res (Option Int)
def OOut (s : Sit) (A : Wy) (S : Store) (H : Hp) (σ : St) (Q : Option Int → Hp → Prop) : Res (Option Int) → Prop
  | .ok d S' => ∀ H', Pst s.X.K A S H S' H' → Q d H'
  | .exc c fs S' => ∀ dd H', Pst s.X.K A S H S' H' → ExAt s.X.K H' (Own A S') c dd fs → s.W (.ref (s.cad c)) dd σ H'
  | .bad => False
def oNone : MO := fun _ S => .ok none S
def oSome (m : ME) : MO := fun ρ S => (m ρ S).bind fun d S1 => match d with
  | .int i => .ok (some i) S1
  | _ => .bad
/-- what a slice gives -/
def cutD (xs : List D) (lo hi : Option Int) : List D := (xs.drop (HT.sIx xs.length 0 lo)).take (HT.sIx xs.length xs.length hi - HT.sIx xs.length 0 lo)
def dCut (S : Store) (d : D) (lo hi : Option Int) : Option D := match vw S d with
  | .tup xs => some (.tup (cutD xs lo hi))
  | .lst _ xs => some (.lst true (cutD xs lo hi))
  | .rol xs => some (.lst true (cutD xs lo hi))
  | _ => none
def mCut (m : ME) (l h : MO) : ME := fun ρ S => (m ρ S).bind fun d S1 => (l ρ S1).bind fun lo S2 => (h ρ S2).bind fun hi S3 => opt (dCut S3 d lo hi) S3
section
variable {s : Sit} {ρ : Rho} {S S1 : Store} {A : Wy} {σ : St} {H H1 : Hp}
def tDo (s : Sit) (m : MO) (σ : St) (H : Hp) (Q : Option Int → Hp → Prop) : Prop := ∃ ρ S A, Cn s ρ S A σ H ∧ OOut s A S H σ Q (m ρ S)
def SO (s : Sit) (e : Option Expr) (m : MO) : Prop := PO s.X e (tDo s m)
theorem PO.weak {X : Cx} {e : Option Expr} {t t' : TO} (h : PO X e t) (w : ∀ σ H Q, t' σ H Q → t σ H Q) : PO X e t' := ⟨fun pins s σ H Q I q => h.run pins s σ H Q I (w _ _ _ q)⟩
theorem so_none : SO s none oNone := PO.weak po_none fun σ H Q q => by
  obtain ⟨ρ, S, A, c, q⟩ := q
  exact q H (.refl c.cells)
theorem so_some {e : Expr} {m : ME} (he : SE s e m) : SO s (some e) (oSome m) := PO.weak (po_some he) fun σ H Q q => by
  obtain ⟨ρ, S, A, c, q⟩ := q
  refine ⟨ρ, S, A, c, ?_⟩
  unfold oSome at q
  cases e : m ρ S with
  | exc x fs S1 => rw [e] at q; exact q
  | bad => rw [e] at q; exact q
  | ok d S1 =>
    rw [e] at q
    intro v H1 p r f
    dsimp only [bind_ok] at q
    split at q
    · rename_i i
      refine ⟨i, ?_, q H1 p⟩
      rcases r with ⟨_, _, z, _⟩ | r | ⟨_, _, _, z, _⟩
      · cases z
      · cases r; rfl
      · cases z
    · exact q.elim
theorem tDo_bind {m : MO} {k : Option Int → Store → Res D} {Q : VK} {Q' : Option Int → Hp → Prop} (c : Cn s ρ S A σ H) (h : EOut s A S H σ Q ((m ρ S).bind k))
    (go : ∀ b S1 H1, Pst s.X.K A S H S1 H1 → Cn s ρ S1 A σ H1 → EOut s A S1 H1 σ Q (k b S1) → Q' b H1) : tDo s m σ H Q' := by
  refine ⟨ρ, S, A, c, ?_⟩
  cases e : m ρ S with
  | ok d S1 => intro H1 p; rw [e] at h; exact go d S1 H1 p (c.step p) (EOut.on c.cells p h)
  | exc x fs S1 => intro dd H1 p q; rw [e] at h; exact h dd H1 p q
  | bad => rw [e] at h; exact h
theorem RpAll.cut {K : PySem.W.Frag} {H : Hp} {O : Ow} {vs : List V} {ds : List D} (r : RpAll K H O vs ds) (lo hi : Option Int) : RpAll K H O (cutV vs lo hi) (cutD ds lo hi) := by
  unfold cutV cutD
  rw [r.length]
  exact (r.drop _).take _
def rSl3 (K : PySem.W.Frag) : V → Option Int → Option Int → Hp → VK → Prop := fun x lo hi H Q => rSlA K x lo hi H Q ∨ rSlL K x lo hi H Q
theorem cut_whole {ds : List D} {lo hi : Option Int} (h : HT.sIx ds.length 0 lo = 0 ∧ HT.sIx ds.length ds.length hi = ds.length) : cutD ds lo hi = ds := by
  unfold cutD
  rw [h.1, h.2]
  simp
theorem se_cut {e : Expr} {lo hi : Option Expr} {m : ME} {l h : MO} {p2 pos : Pos} (he : SE s e m) (hl : SO s lo l) (hu : SO s hi h) : SE s (.Subscript e (.Slice lo hi none p2) pos) (mCut m l h) := by
  refine PE.weak (pe_slice (sl_tupA.or sl_list) he hl hu) fun σ H Q q => ?_
  obtain ⟨ρ, S, A, c, q⟩ := q
  refine tD_bind c q fun d S1 v H1 _ p1 c1 r1 _ q1 => ?_
  refine tDo_bind c1 (q1.on c.cells p1) fun lo S2 H2 p2 c2 q2 => ?_
  refine tDo_bind c2 q2 fun hi S3 H3 p3 c3 q3 => ?_
  have r3 := (r1.step c1.cells p2).step c2.cells p3
  cases hf : dCut S3 d lo hi with
  | none => rw [hf] at q3; exact q3.elim
  | some x =>
    rw [hf] at q3
    have q4 := fin_opt c3.cells q3
    unfold dCut at hf
    split at hf
    · rename_i ys e
      cases hf
      obtain ⟨a, xs, rfl, h3, h4⟩ := (r3.as c3.cells e).tup
      refine .inl ⟨a, xs, rfl, h3, fun z => ?_, fun _ => new_tup c3.cells (h4.cut lo hi) q4⟩
      rw [h4.length] at z
      rw [cut_whole z] at q4
      exact old_of (.tup h3 h4) rfl q4
    · rename_i f ys e
      cases hf
      obtain ⟨a, xs, rfl, h3, h4⟩ := (r3.as c3.cells e).lst
      exact .inr ⟨a, xs, rfl, .of h3, new_lst c3.cells (h4.cut lo hi) q4⟩
    · rename_i ys e
      cases hf
      obtain ⟨a, xs, rfl, h3, h4⟩ := (r3.as c3.cells e).list rfl
      exact .inr ⟨a, xs, rfl, h3, new_lst c3.cells (h4.cut lo hi) q4⟩
    · cases hf
end

/-! ### cells that change -/
theorem Pst.mut {K : PySem.W.Frag} {A : Wy} {S : Store} {H : Hp} {n : Nat} {f f' : Bool} {ds ds' : List D} {xs' : List V} (c : Cells K A S H) (h : S[n]? = some (some (.lst f ds))) (r : RpAll K H (Own A S) xs' ds') :
    Pst K A S H (S.set n (some (.lst f' ds'))) (upd H (A.loc n) (.lst xs')) := by
  have hn : n < S.length := by
    rcases Nat.lt_or_ge n S.length with z | z
    · exact z
    · rw [List.getElem?_eq_none z] at h; cases h
  have oc : OwC A S (A.loc n) := ⟨n, _, h, rfl⟩
  have e : Ext (OwC A S) H (upd H (A.loc n) (.lst xs')) := fun a o q z => by
    rw [upd_ne (fun y => z (by rw [y]; exact oc))]
    exact q
  have lv : Lives S (S.set n (some (.lst f' ds'))) := fun m => by
    rw [List.getElem?_set]
    split
    · rename_i z; subst z
      rw [h]; rfl
    · rfl
  have get : ∀ (m : Nat) (d : D), (S.set n (some (.lst f' ds')))[m]? = some (some d) → (m = n ∧ d = .lst f' ds') ∨ (m ≠ n ∧ S[m]? = some (some d)) := fun m d q => by
    rw [List.getElem?_set] at q
    split at q
    · rename_i z
      cases q
      exact .inl ⟨z.symm, rfl⟩
    · rename_i z; exact .inr ⟨fun y => z y.symm, q⟩
  refine ⟨e, lv, List.length_set .., ⟨fun m d q => ?_, fun m k d e' q q' z => ?_, fun a z => ?_, fun a z => by rw [lv.ownC]; exact c.apart a z⟩⟩
  · rw [lv.own]
    rcases get m d q with ⟨rfl, rfl⟩ | ⟨h1, h2⟩
    · exact .lst upd_same (r.ext c.owns e.own (.refl _ _))
    · refine (c.at_ m d h2).ext c.owns e.own (.refl _ _) fun o w => ?_
      rw [upd_ne (fun y => h1 (c.inj m n d _ h2 h y))]
      exact w
  · have live : ∀ (m : Nat) (d : D), (S.set n (some (.lst f' ds')))[m]? = some (some d) → ∃ d', S[m]? = some (some d') := fun m d q => by
      rcases get m d q with ⟨rfl, rfl⟩ | ⟨h1, h2⟩
      · exact ⟨_, h⟩
      · exact ⟨_, h2⟩
    obtain ⟨d1, h1⟩ := live m d q
    obtain ⟨d2, h2⟩ := live k e' q'
    exact c.inj m k d1 d2 h1 h2 z
  · by_cases y : a = A.loc n
    · exact absurd (by rw [y]; exact oc) (c.apart a z)
    · rw [upd_ne y]; exact c.phs a z
/-- a list's method that changes it: from the content and the arguments the new content and the value -/
def MutSem (s : Sit) (f : List D → List D → Option (List D × D)) (r : V → List V → Hp → VK → Prop) : Prop :=
  ∀ (A : Wy) (S : Store) (H : Hp) (n : Nat) (fl : Bool) (ds : List D) (vs : List V) (args : List D) (ds' : List D) (x : D) (Q : VK), Cells s.X.K A S H → S[n]? = some (some (.lst fl ds)) → RpL s.X.K s.Z A S H vs args → f ds args = some (ds', x) →
    (∀ z H', Pst s.X.K A S H (S.set n (some (.lst fl ds'))) H' → Rp s.X.K H' (Own A (S.set n (some (.lst fl ds')))) z x → Q z H') → r (.ref (A.loc n)) vs H Q
def cellL (S : Store) (n : Nat) : Option (Bool × List D) := match S[n]? with
  | some (some (.lst f xs)) => some (f, xs)
  | _ => none
theorem cellL_eq {S : Store} {n : Nat} {f : Bool} {xs : List D} (h : cellL S n = some (f, xs)) : S[n]? = some (some (.lst f xs)) := by
  unfold cellL at h
  split at h
  · rename_i e; cases h; exact e
  · cases h
/-- o.m(..), o a list of its own -/
def mMut (f : List D → List D → Option (List D × D)) (o : ME) (a : MA) : ME := fun ρ S => (o ρ S).bind fun d S1 => match d with
  | .loc n => if (cellL S1 n).isSome then (a ρ S1).bind fun args S2 => match cellL S2 n with
    | some (fl, xs) => match f xs args with
      | some (xs', x) => if isNew x then .bad else .ok x (S2.set n (some (.lst fl xs')))
      | none => .bad
    | none => .bad else .bad
  | _ => .bad
section
variable {s : Sit}
theorem mut_red {f : List D → List D → Option (List D × D)} {r : V → List V → Hp → VK → Prop} (sem : MutSem s f r) {o : ME} {a : MA} {σ : St} {H : Hp} {Q : VK} (q : tD s (mMut f o a) σ H Q) : tBM s.X.K "list" r (tD s o) (tDa s a) σ H Q := by
  obtain ⟨ρ, S, A, c, q⟩ := q
  refine tD_bind c q fun d S1 v H1 em p1 c1 r1 f1 q1 => ?_
  split at q1
  · rename_i n
    split at q1
    case isFalse => exact q1.elim
    rename_i hl
    obtain ⟨⟨fl, xs⟩, hl⟩ := Option.isSome_iff_exists.mp hl
    have hv : v = .ref (A.loc n) := by
      rcases r1 with ⟨m, e, h1, h2, h3⟩ | r1 | ⟨_, _, _, z, _⟩
      · cases h1; exact h2
      · cases r1
      · cases z
    subst hv
    cases c1.cells.at_ n _ (cellL_eq hl) with
    | lst h1 h2 =>
      refine ⟨.inl ⟨rfl, _, .of h1⟩, tDa_bind c1 (q1.on c.cells p1) fun args S2 vs H2 _ p2 c2 r2 q2 => ?_⟩
      split at q2
      case h_2 => exact q2.elim
      rename_i fl2 xs2 hc
      split at q2
      case h_2 => exact q2.elim
      rename_i xs' x hf
      split at q2
      · exact q2.elim
      · rename_i hx
        exact sem A S2 H2 n fl2 xs2 vs args xs' x Q c2.cells (cellL_eq hc) r2 hf fun z H3 p3 r3 => q2 z H3 p3 (.inr (.inl r3)) (.old (by simpa using hx))
  · exact q1.elim
def fAppend (xs args : List D) : Option (List D × D) := match args with
  | [d] => if plain d && decide (xs.length < LINE) then some (xs ++ [cool d], .non) else none
  | _ => none
def fExtend (xs args : List D) : Option (List D × D) := match args with
  | [.lst _ ys] => if xs.length + ys.length ≤ LINE then some (xs ++ ys, .non) else none
  | _ => none
def fPop (xs args : List D) : Option (List D × D) := match args with
  | [] => (xs[xs.length - 1]?).map fun y => (xs.dropLast, cool y)
  | _ => none
def fPopAt (xs args : List D) : Option (List D × D) := match args with
  | [.int i] => if i ≤ 9223372036854775807 ∧ -9223372036854775808 ≤ i then (match seqIndex? i xs.length with
    | some k => (xs[k]?).map fun y => (xs.eraseIdx k, cool y)
    | none => none) else none
  | _ => none
theorem sem_append : MutSem s fAppend rAppend := by
  intro A S H n fl ds vs args ds' x Q c hn r hf q
  unfold fAppend at hf
  split at hf
  · rename_i d
    split at hf
    · rename_i hp
      simp only [Bool.and_eq_true, decide_eq_true_eq] at hp
      cases hf
      obtain ⟨v, rfl, rr⟩ := r.one
      cases c.at_ n _ hn with
      | lst h1 h2 =>
        refine ⟨_, _, v, rfl, rfl, h1, by rw [line_eq, h2.length]; exact hp.2, ?_⟩
        have p := Pst.mut (f' := fl) c hn (h2.append (.cons (rr.plain hp.1).cool .nil))
        exact q .non _ p .non
    · cases hf
  · cases hf
theorem RpAll.dropLast {K : PySem.W.Frag} {H : Hp} {O : Ow} {vs : List V} {ds : List D} (r : RpAll K H O vs ds) : RpAll K H O vs.dropLast ds.dropLast := by
  rw [List.dropLast_eq_take, List.dropLast_eq_take, r.length]
  exact r.take _
theorem sem_pop : MutSem s fPop rPop := by
  intro A S H n fl ds vs args ds' x Q c hn r hf q
  unfold fPop at hf
  split at hf
  · simp only [Option.map_eq_some_iff] at hf
    obtain ⟨y, h, e⟩ := hf
    cases e
    cases r
    cases c.at_ n _ hn with
    | lst h1 h2 =>
      obtain ⟨v, h3, h4⟩ := h2.get h
      rw [← h2.length] at h3
      have p := Pst.mut (f' := fl) c hn h2.dropLast
      exact ⟨_, _, v, rfl, rfl, h1, h3, q v _ p (h4.cool.step c p)⟩
  · cases hf
theorem sem_popAt : MutSem s fPopAt rPopAt := by
  intro A S H n fl ds vs args ds' x Q c hn r hf q
  unfold fPopAt at hf
  split at hf
  · rename_i i
    split at hf
    case isFalse => cases hf
    rename_i hi
    split at hf
    case h_2 => cases hf
    rename_i k hk
    simp only [Option.map_eq_some_iff] at hf
    obtain ⟨y, h, e⟩ := hf
    cases e
    have hv := r.int1
    subst hv
    cases c.at_ n _ hn with
    | lst h1 h2 =>
      obtain ⟨v, h3, h4⟩ := h2.get h
      have p := Pst.mut (f' := fl) c hn (h2.eraseIdx k)
      exact ⟨_, _, i, k, v, rfl, rfl, h1, by omega, by omega, by rw [h2.length]; exact hk, h3, q v _ p (h4.cool.step c p)⟩
  · cases hf
theorem sem_extend : MutSem s fExtend rExtend := by
  intro A S H n fl ds vs args ds' x Q c hn r hf q
  unfold fExtend at hf
  split at hf
  · rename_i f ys
    split at hf
    · rename_i hl
      cases hf
      obtain ⟨v, rfl, rr⟩ := r.one
      cases rr.rp (fun n z => nomatch z) fun c fs z => nomatch z with
      | lst n3 h3 h4 =>
        cases c.at_ n _ hn with
        | lst h1 h2 =>
          exact ⟨_, _, _, _, rfl, rfl, h1, h3, by rw [line_eq, h2.length, h4.length]; exact hl, q .non _ (Pst.mut (f' := fl) c hn (h2.append h4)) .non⟩
    · cases hf
  · cases hf
end
end Dv

set_option maxHeartbeats 4000000
namespace Dv
open PySem PySem.Spec PyProof.Rows L2
set_option autoImplicit false

section
variable {s : Sit} {ρ : Rho} {S S1 : Store} {A : Wy} {σ : St} {H H1 : Hp}
theorem tD_mono {m : ME} {Q Q' : VK} (h : ∀ v H, Q v H → Q' v H) (q : tD s m σ H Q) : tD s m σ H Q' := by
  obtain ⟨ρ, S, A, c, q⟩ := q
  refine ⟨ρ, S, A, c, ?_⟩
  cases e : m ρ S with
  | ok d S1 => rw [e] at q; intro v H1 p r f; exact h _ _ (q v H1 p r f)
  | exc x fs S1 => rw [e] at q; exact q
  | bad => rw [e] at q; exact q
end

/-! ### o.m(..) -/
section
variable {s : Sit} {o e : Expr} {es : List Expr} {mo : ME} {ma : MA} {name : Str} {apos cpos : Pos} {id : String} {r : V → List V → Hp → VK → Prop} {f : List D → List D → Option (List D × D)}
theorem se_mut (slot : Slot "list" name id) (hty : typeOf (.builtin id) = pure (.type "method_descriptor")) (hm : MtR s.X id r) (sem : MutSem s f r) (ho : SE s o mo) (ha : SA s (e :: es) ma)
    (hbase : attributeBase o name s.X.env (eval o s.X.env) = eval o s.X.env := by rfl)
    (hfew : ((backTo cpos (starEach (e :: es) s.X.env)).all (fun x => !x.1) && (backToKw cpos (keywordEach [] s.X.env)).all (fun x => x.1.isSome)
      && decide ((e :: es).length + ([] : List Keyword).length + (if ([] : List Keyword).isEmpty then 0 else 1) < 30)) = true := by rfl)
    (hline : (apos.endLine == cpos.line) = true := by rfl) (hs : starEach (e :: es) s.X.env = (false, eval e s.X.env) :: starEach es s.X.env := by rfl) (hplain : (backTo cpos (starEach es s.X.env)).any (·.1) = false := by rfl) :
    SE s (.Call (.Attribute o name apos) (e :: es) [] cpos) (mMut f mo ma) :=
  PE.weak (pe_bm PySem.F.plainAttrs_list slot hty hm ho ha hbase hfew hline hs hplain) fun _ _ _ q => mut_red sem q
theorem se_mut0 (slot : Slot "list" name id) (hty : typeOf (.builtin id) = pure (.type "method_descriptor")) (hm : MtR s.X id r) (sem : MutSem s f r) (ho : SE s o mo)
    (hbase : attributeBase o name s.X.env (eval o s.X.env) = eval o s.X.env := by rfl) (hline : (apos.endLine == cpos.line) = true := by rfl) :
    SE s (.Call (.Attribute o name apos) [] [] cpos) (mMut f mo aNil) :=
  PE.weak (pe_bm0 PySem.F.plainAttrs_list slot hty hm ho hbase hline) fun σ H Q q => by
    refine tD_mono (fun v H1 h => ⟨h.1, ?_⟩) (mut_red sem q)
    obtain ⟨ρ, S, A, c, q⟩ := h.2
    exact q [] H1 (.refl c.cells) .nil
end

/-! ### o[i] = e -/
/-- the item's new value -/
def setAt (ρ : Rho) (S : Store) (c j d : D) : ResS := match c, j with
  | .loc n, .int k => match cellL S n with
    | some (f, xs) => match ixN xs.length k with
      | some i => if plain d then .nx ρ (S.set n (some (.lst f (xs.set i (cool d))))) else .bad
      | none => .bad
    | none => .bad
  | _, _ => .bad
def mSetIx (m o i : ME) : MS := fun ρ S => bindE (m ρ S) ρ fun d S1 => bindE (o ρ S1) ρ fun c S2 => bindE (i ρ S2) ρ fun j S3 => setAt ρ S3 c j d
/-- the item of a list alone -/
def dIxL (S : Store) (d e : D) : Option D := match vw S d, vw S e with
  | .lst _ xs, .int i => (atI xs i).map cool
  | .rol xs, .int i => (atI xs i).map cool
  | _, _ => none
/-- o[i] op= e -/
def mAugIx (f : Store → D → D → Option D) (o i m : ME) : MS := fun ρ S => bindE (o ρ S) ρ fun c S1 => bindE (i ρ S1) ρ fun j S2 => match dIxL S2 c j with
  | some x => bindE (m ρ S2) ρ fun y S3 => match f S3 x y with
    | some z => setAt ρ S3 c j z
    | none => .bad
  | none => .bad
/-- name op= e -/
def mAug (f : Store → D → D → Option D) (base i : Nat) (m : ME) : MS := fun ρ S => match ρ[i]? with
  | some (some x) => if plain x then bindE (m ρ S) ρ fun y S1 => match f S1 x y with
    | some z => holdV base i z ρ S1
    | none => .bad else .bad
  | _ => .bad
section
variable {s : Sit} {ρ : Rho} {S S1 : Store} {A : Wy} {σ : St} {H H1 : Hp}
theorem loc_of {v : V} {n : Nat} (r : RpS s.X.K s.Z A S H v (.loc n)) : v = .ref (A.loc n) := by
  rcases r with ⟨m, e, h1, h2, h3⟩ | r1 | ⟨_, _, _, z, _⟩
  · cases h1; exact h2
  · cases r1
  · cases z
theorem setAt_go {v w x : V} {c j d : D} {D : Ends} (cn : Cn s ρ S A σ H) (r1 : RpS s.X.K s.Z A S H w c) (r2 : RpS s.X.K s.Z A S H x j) (r : RpS s.X.K s.Z A S H v d) (q : SOut s A S H D (setAt ρ S c j d)) :
    rSetL w x v H fun H1 => D.nx σ H1 := by
  unfold setAt at q
  split at q
  · rename_i n k
    split at q
    · rename_i f xs hc
      split at q
      · rename_i i hi
        split at q
        · rename_i hp
          rw [loc_of r1, int_of r2]
          cases cn.cells.at_ n _ (cellL_eq hc) with
          | lst h1 h2 =>
            have p := Pst.mut (f' := f) cn.cells (cellL_eq hc) (h2.set (r.plain hp).cool i)
            exact ⟨_, _, k, i, rfl, rfl, h1, by rw [h2.length]; exact hi, q σ _ A (p.pss cn.cells) (cn.step p)⟩
        · exact q.elim
      · exact q.elim
    · exact q.elim
  · exact q.elim
variable {o i e : Expr} {mo mi m : ME} {tpos pos : Pos}
theorem s_setIx (he : SE s e m) (ho : SE s o mo) (hi : SE s i mi)
    (ha : ∀ v, assign (.Subscript o i tpos) s.X.env v = (do
      let ov ← holding [v] (eval o s.X.env)
      let iv ← holding [v, ov] (eval i s.X.env)
      standAt tpos
      holding [v, ov, iv] (setItem ov iv v)
      release [v, ov, iv] []) := by intro _; rfl)
    (hs : swapsWithSole [.Subscript o i tpos] e pos.line s.X.env = pure false := by rfl) (hw : swappedStores [.Subscript o i tpos] e s.X.env = pure none := by rfl)
    (h1 : (assignEach [.Subscript o i tpos] s.X.env).map (·.2) = [assign (.Subscript o i tpos) s.X.env] := by rfl) : SS s (.Assign [.Subscript o i tpos] e pos) (mSetIx m mo mi) :=
  PS.weak (ps_asg he (pg_sub ho hi set_list ha) hs hw h1) fun D σ H q => by
    obtain ⟨ρ, S, A, c, q⟩ := q
    refine tD_bindS c q fun d S1 v H1 _ p1 c1 r1 _ q1 => ?_
    refine tD_bindS c1 q1 fun cc S2 w H2 _ p2 c2 r2 _ q2 => ?_
    refine tD_bindS c2 q2 fun j S3 x H3 _ p3 c3 r3 _ q3 => ?_
    exact setAt_go c3 (r2.step c2.cells p3) r3 ((r1.step c1.cells p2).step c2.cells p3) q3
theorem get_any : PGet s.X (rIxL s.X.K) := by
  intro pins sh σ H x y v u Q I rx ry h
  obtain ⟨p, xs, i, z, rfl, rfl, hq, he, q⟩ := h
  cases rx
  obtain ⟨t, rfl⟩ := ry
  obtain ⟨its, r, pl, hz⟩ := I.list hq
  obtain ⟨j, h1, h2, h3, h4, h5⟩ := atI_get he
  obtain ⟨w, ew, rw'⟩ := r.get h2
  have hl := r.length
  have hn := line63
  have fin : EP s.X pins σ Q w sh := ⟨z, H, I, rw', q⟩
  by_cases h0 : 0 ≤ i
  · have hj : i.toNat = j := by
      rw [seqIndex_of h0 h5] at h1
      exact Option.some.inj h1
    refine wpAny_mono (wpAny_getItem_list (Q := fun r s' => r = w ∧ EP s.X pins σ Q r s') pl.isList h0 (by omega) (by rw [hj]; simpa using ew) ⟨rfl, fin⟩) (fun r s' k => k.2) fun _ _ k => k
  · have hj : (i + (its.toArray.size : Int)).toNat = j := by
      rw [seqIndex_neg (by omega) h4] at h1
      rw [List.size_toArray, ← hl]
      exact Option.some.inj h1
    refine wpAny_mono (wpAny_getItem_list_neg (Q := fun r s' => r = w ∧ EP s.X pins σ Q r s') pl.isList (by omega) (by rw [List.size_toArray] <;> omega) (by omega) (by rw [hj]; simpa using ew) ⟨rfl, fin⟩) (fun r s' k => k.2) fun _ _ k => k
theorem sem_ixL : OpSem s dIxL (rIxL s.X.K) := by
  intro A S H v w d e x Q c rd re hf q
  unfold dIxL at hf
  split at hf
  · rename_i f ys i h1 h2
    simp only [Option.map_eq_some_iff] at hf
    obtain ⟨y', hf, rfl⟩ := hf
    obtain ⟨a, xs, rfl, h3, h4⟩ := (rd.as c h1).lst
    have e2 := (re.as c h2).int
    subst e2
    obtain ⟨u, h5, h6⟩ := atI_rp h4 hf
    exact ⟨a, xs, i, u, rfl, rfl, .of h3, h5, old_of h6.cool (isNew_cool _) q⟩
  · rename_i ys i h1 h2
    simp only [Option.map_eq_some_iff] at hf
    obtain ⟨y', hf, rfl⟩ := hf
    obtain ⟨a, xs, rfl, h3, h4⟩ := (rd.as c h1).list rfl
    have e2 := (re.as c h2).int
    subst e2
    obtain ⟨u, h5, h6⟩ := atI_rp h4 hf
    exact ⟨a, xs, i, u, rfl, rfl, h3, h5, old_of h6.cool (isNew_cool _) q⟩
  · cases hf
theorem Same.pst {K : PySem.W.Frag} (c : Cells K A S H) (h : Same H H1) : Pst K A S H S H1 := .of_same c h
/-- o[i] op= e -/
theorem s_augIx {op : Operator} {f : Store → D → D → Option D} {r : R2} (ho : SE s o mo) (hi : SE s i mi) (he : SE s e m) (hp : OpR s.X (inplaceOp op) r) (sem : OpSem s f r)
    (ha : ∀ ov iv new, augStore i ov iv new = (do holding [new, ov, iv] (setItem ov iv new); release [new, ov, iv] []; pure .next) := by intros; rfl) : SS s (.AugAssign (.Subscript o i tpos) op e pos) (mAugIx f mo mi m) :=
  PS.weak (ps_augS ho hi get_any he hp set_list ha) fun D σ H q => by
    obtain ⟨ρ, S, A, c, q⟩ := q
    refine tD_bindS c q fun cc S1 w H1 _ p1 c1 r1 _ q1 => ?_
    refine tD_bindS c1 q1 fun j S2 x H2 _ p2 c2 r2 _ q2 => ?_
    have r1' := r1.step c1.cells p2
    cases hx : dIxL S2 cc j with
    | none => rw [hx] at q2; exact q2.elim
    | some y =>
      rw [hx] at q2
      refine sem_ixL A S2 H2 w x cc j y _ c2.cells r1' r2 hx fun z H3 sm rz _ => ?_
      have p3 : Pst s.X.K A S2 H2 S2 H3 := .of_same c2.cells sm
      have c3 := c2.step p3
      have q3 := SOut.on (p3.pss c2.cells) q2
      refine tD_bindS c3 q3 fun d S4 v H4 _ p4 c4 r4 _ q4 => ?_
      cases hf : f S4 y d with
      | none => rw [hf] at q4; exact q4.elim
      | some k =>
        rw [hf] at q4
        refine sem A S4 H4 z v y d k _ c4.cells (rz.step c3.cells p4) r4 hf fun u H5 sm5 ru _ => ?_
        have p5 : Pst s.X.K A S4 H4 S4 H5 := .of_same c4.cells sm5
        have c5 := c4.step p5
        exact setAt_go c5 (((r1'.step c2.cells p3).step c3.cells p4).step c4.cells p5) (((r2.step c2.cells p3).step c3.cells p4).step c4.cells p5) ru (SOut.on (p5.pss c4.cells) q4)
/-- name op= e -/
theorem s_aug {op : Operator} {f : Store → D → D → Option D} {r : R2} {k : Nat} {x : Str} {pos' : Pos} (hN : s.X.N.Nodup) (hi : s.X.N[k]? = some x) (hx : Loc s.X.env.scope x) (he : SE s e m) (hp : OpR s.X (inplaceOp op) r) (sem : OpSem s f r)
    (hf : s.X.fn x = true ∨ s.X.env.scope.names.lookup x = some .local := by first | exact .inl rfl | exact .inr rfl | assumption) : SS s (.AugAssign (.Name x pos') op e pos) (mAug f s.base k m) :=
  PS.weak (ps_aug hN hi hx he hp hf) fun D σ H q => by
    obtain ⟨ρ, S, A, c, q⟩ := q
    unfold mAug at q
    split at q
    · rename_i d hd
      split at q
      · rename_i hpl
        obtain ⟨v, h1, h2⟩ := c.slot k d hd
        refine ⟨v, h1, ?_⟩
        refine tD_bindS c q fun y S1 w H1 _ p1 c1 r1 _ q1 => ?_
        cases hf : f S1 d y with
        | none => rw [hf] at q1; exact q1.elim
        | some z =>
          rw [hf] at q1
          refine sem A S1 H1 v w d y z _ c1.cells (h2.step c.cells p1) r1 hf fun u H2 sm ru _ => ?_
          have p2 : Pst s.X.K A S1 H1 S1 H2 := .of_same c1.cells sm
          exact holdV_go (c1.step p2) ru (SOut.on (p2.pss c1.cells) q1)
      · exact q.elim
    · exact q.elim
end

/-! ### in -/
def pySeq (S : Store) (d : D) : Option (List PyData) := match pyOf S d with
  | some (.list xs) => some xs
  | some (.tuple xs) => some xs
  | _ => none
def inD (S : Store) (d e : D) : Option Bool := match pyOf S d, pySeq S e with
  | some p, some ps => some (ps.any fun z => PyData.eqv z p)
  | _, _ => none
def dIn (S : Store) (d e : D) : Option D := (inD S d e).map .bl
def dNotIn (S : Store) (d e : D) : Option D := (inD S d e).map fun b => .bl (!b)
section
variable {s : Sit}
def rInT (K : PySem.W.Frag) (n : Bool) : R2 := fun x y H Q => ∃ d ds, Dp K H x d ∧ Dp K H y (.tuple ds) ∧ SeqAt.shaped d = true ∧ SeqAt.shaped (.tuple ds) = true ∧ Q (.bl (if n then !(ds.any fun z => PyData.eqv z d) else ds.any fun z => PyData.eqv z d)) H
theorem op_inT {X : Cx} (hu : X.A.units + 65 < cLine) : OpR X (compareOp .In) (rInT X.K false) := by
  intro pins s σ H x y v u Q I rx ry h
  obtain ⟨d, ds, hd, he, sd, se, q⟩ := h
  obtain ⟨as, r1⟩ := Dp.reads I d x v hd rx
  obtain ⟨bs, r2⟩ := Dp.reads I (.tuple ds) y u he ry
  exact SeqAt.in_tuple_reads r2 r1 (SeqAt.canLay_of_shaped se) (SeqAt.canLay_of_shaped sd) (room_in_shaped sd hu) ⟨.bl _, H, I, rfl, q⟩
theorem op_notInT {X : Cx} (hu : X.A.units + 65 < cLine) : OpR X (compareOp .NotIn) (rInT X.K true) := by
  intro pins s σ H x y v u Q I rx ry h
  obtain ⟨d, ds, hd, he, sd, se, q⟩ := h
  obtain ⟨as, r1⟩ := Dp.reads I d x v hd rx
  obtain ⟨bs, r2⟩ := Dp.reads I (.tuple ds) y u he ry
  exact SeqAt.notIn_tuple_reads r2 r1 (SeqAt.canLay_of_shaped se) (SeqAt.canLay_of_shaped sd) (room_in_shaped sd hu) ⟨.bl _, H, I, rfl, q⟩
theorem op_in2 (hu : s.X.A.units + 65 < cLine) : OpR s.X (compareOp .In) (fun x y H Q => rInD s.X.K x y H Q ∨ rInT s.X.K false x y H Q) := (op_inD hu).or (op_inT hu)
theorem op_notIn2 (hu : s.X.A.units + 65 < cLine) : OpR s.X (compareOp .NotIn) (fun x y H Q => rNotInD s.X.K x y H Q ∨ rInT s.X.K true x y H Q) := (op_notInD hu).or (op_notInT hu)
theorem pySeq_dp {A : Wy} {S : Store} {H : Hp} {v : V} {d : D} {ps : List PyData} (c : Cells s.X.K A S H) (r : RpS s.X.K s.Z A S H v d) (h : pySeq S d = some ps) :
    (Dp s.X.K H v (.list ps) ∧ SeqAt.shaped (.list ps) = true) ∨ (Dp s.X.K H v (.tuple ps) ∧ SeqAt.shaped (.tuple ps) = true) := by
  unfold pySeq at h
  split at h
  · rename_i xs e; cases h; exact .inl (pyOf_dp c r e)
  · rename_i xs e; cases h; exact .inr (pyOf_dp c r e)
  · cases h
theorem sem_in : OpSem s dIn (fun x y H Q => rInD s.X.K x y H Q ∨ rInT s.X.K false x y H Q) := by
  intro A S H v w d e x Q c rd re hf q
  simp only [dIn, Option.map_eq_some_iff] at hf
  obtain ⟨b, hf, rfl⟩ := hf
  unfold inD at hf
  split at hf
  · rename_i p ps h1 h2
    cases hf
    obtain ⟨a1, a2⟩ := pyOf_dp c rd h1
    rcases pySeq_dp c re h2 with ⟨b1, b2⟩ | ⟨b1, b2⟩
    · exact .inl ⟨p, ps, a1, b1, a2, b2, old_of (.bl _) rfl q⟩
    · exact .inr ⟨p, ps, a1, b1, a2, b2, old_of (.bl _) rfl q⟩
  · cases hf
theorem sem_notIn : OpSem s dNotIn (fun x y H Q => rNotInD s.X.K x y H Q ∨ rInT s.X.K true x y H Q) := by
  intro A S H v w d e x Q c rd re hf q
  simp only [dNotIn, Option.map_eq_some_iff] at hf
  obtain ⟨b, hf, rfl⟩ := hf
  unfold inD at hf
  split at hf
  · rename_i p ps h1 h2
    cases hf
    obtain ⟨a1, a2⟩ := pyOf_dp c rd h1
    rcases pySeq_dp c re h2 with ⟨b1, b2⟩ | ⟨b1, b2⟩
    · exact .inl ⟨p, ps, a1, b1, a2, b2, old_of (.bl _) rfl q⟩
    · exact .inr ⟨p, ps, a1, b1, a2, b2, old_of (.bl _) rfl q⟩
  · cases hf
end

/-! ### isinstance(x, int), .. -/
def tyD : D → Option String
  | .non => some "NoneType"
  | .bl _ => some "bool"
  | .int _ => some "int"
  | .str _ => some "str"
  | .tup _ => some "tuple"
  | .lst _ _ => some "list"
  | .rol _ => some "list"
  | .dct _ _ => some "dict"
  | _ => none
/-- of two types of Python: whether the one is of the other -/
def isTy (t n : String) : Bool := t == n || (t == "bool" && n == "int")
def tyNames : List String := ["NoneType", "bool", "int", "str", "tuple", "list", "dict"]
def cIsi (S : Store) (ds : List D) : Option D := match ds with
  | [d, .ty n] => match tyD (vw S d) with
    | some t => if tyNames.contains n then some (.bl (isTy t n)) else none
    | none => none
  | _ => none
theorem kit_names (K : PySem.W.Frag) : ∀ t ∈ tyNames, ∀ n ∈ tyNames, PySem.W.kitOne K (.type t) (.type n) = some (isTy t n) := by
  intro t ht n hn
  simp only [tyNames, List.mem_cons, List.mem_nil_iff, or_false] at ht hn
  rcases ht with rfl | rfl | rfl | rfl | rfl | rfl | rfl <;> rcases hn with rfl | rfl | rfl | rfl | rfl | rfl | rfl <;> rfl
section
variable {s : Sit} {A : Wy} {S : Store} {H : Hp} {v : V} {d : D} {t : String}
theorem TyX.sqT {K : PySem.W.Frag} {a : Addr} {xs : List V} (h : SqT K H a xs) : TyX K H (.ref a) (.type "tuple") := by
  rcases h with (h | ⟨o, h⟩) | ⟨o, _, _, h1, h2, _⟩
  · exact .base (.tup h)
  · exact .fTuple h
  · exact .kTuple h1 h2
theorem tyD_ok (c : Cells s.X.K A S H) (r : RpS s.X.K s.Z A S H v d) (h : tyD (vw S d) = some t) : TyX s.X.K H v (.type t) ∧ t ∈ tyNames := by
  unfold tyD at h
  split at h
  · rename_i e; cases h; rw [(r.as c e).non]; exact ⟨.base .non, by decide⟩
  · rename_i b e; cases h; rw [(r.as c e).bl]; exact ⟨.base (.bl _), by decide⟩
  · rename_i b e; cases h; rw [(r.as c e).int]; exact ⟨.base (.int _), by decide⟩
  · rename_i b e; cases h; rw [(r.as c e).str]; exact ⟨.base (.str _), by decide⟩
  · rename_i b e
    cases h
    obtain ⟨a, xs, rfl, h1, _⟩ := (r.as c e).tup
    exact ⟨TyX.sqT h1, by decide⟩
  · rename_i f b e
    cases h
    obtain ⟨a, xs, rfl, h1, _⟩ := (r.as c e).lst
    exact ⟨.base (.lst h1), by decide⟩
  · rename_i b e
    cases h
    cases r.as c e with
    | rp r =>
      cases r with
      | rol h _ =>
        rcases h with ⟨o, h⟩ | ⟨o, _, _, h1, h2, _⟩
        · exact ⟨.base (.frz h), by decide⟩
        · exact ⟨.kList h1 h2, by decide⟩
    | cell ce => cases ce
  · rename_i f b e
    cases h
    cases r.as c e with
    | rp r => cases r with | dct _ h _ => exact ⟨.base (.dK h), by decide⟩
    | cell ce => cases ce with | dct h _ => exact ⟨.base (.dK h), by decide⟩
  · cases h
theorem sem_isi : CallSem s cIsi (rIsi s.X.K) := by
  intro A S H vs ds x Q c r hf q
  unfold cIsi at hf
  split at hf
  · rename_i d n
    split at hf
    · rename_i t ht
      split at hf
      · rename_i hn
        cases hf
        obtain ⟨v, w, rfl, r1, r2⟩ := r.two
        obtain ⟨h1, h2⟩ := tyD_ok c r1 ht
        have hw : w = .ty n := by
          rcases r2 with ⟨_, _, z, _⟩ | r | ⟨_, _, _, z, _⟩
          · cases z
          · cases r; rfl
          · cases z
        subst hw
        exact ⟨v, .ty n, .type t, .type n, _, rfl, .ty n, h1, kit_names _ t h2 n (by simpa using hn), old_of (.bl _) rfl q⟩
      · cases hf
    · cases hf
  · cases hf
theorem se_ty {x : Str} {n : String} {pos : Pos} (hg : Gl s.X x) (hm : s.X.mg x = none) (hv : bootBuiltins x = some (.type n)) (hn : x ≠ "__name__" := by decide) (hd : (x == ("__debug__" : Str)) = false := by decide) : SE s (.Name x pos) (mK (.ty n)) :=
  se_k (pe_bltn hg hm hv (show RelV (.ty n) (.type n) from rfl) hn hd) (fun _ _ => .ty n) rfl
end
end Dv

set_option maxHeartbeats 4000000
namespace HT
open PySem PySem.Spec PyProof.Rows L2
section
variable {prog : Program} {w : World} {A : Around} {E : Value → Shared → Prop} {s : Shared}
theorem adjust_rev (n : Nat) : Builtin.Slice.sliceAdjust none none (-1) (n : Int) = ((n : Int) - 1, -1) := by
  unfold Builtin.Slice.sliceAdjust
  simp
theorem places_rev (n : Nat) : Builtin.Slice.slicePlaces ((n : Int) - 1) (-1) (-1) = n := by
  unfold Builtin.Slice.slicePlaces
  have h1 : ¬ ((-1 : Int) > 0) := by omega
  simp only [h1, if_false]
  have e : -(-1 : Int) = 1 := rfl
  rw [e]
  simp only [Int.ediv_one]
  split <;> omega
theorem sliceApplied_rev {sl : Addr} {vl vu vs : Value} {n : Nat} {Q : Int × Int × Nat → Shared → Prop} (hs : s.heap.IsSliceOf sl vl vu vs) (pl : IsPart vl none) (pu : IsPart vu none) (ps : IsPart vs (some (-1)))
    (h : Q ((n : Int) - 1, -1, n) s) : wpAny (model prog w) A (Builtin.Slice.sliceApplied (.ref sl) (pure (n : Int))) Q E s := by
  obtain ⟨os, hos, hcs, hds⟩ := id hs
  unfold Builtin.Slice.sliceApplied Builtin.Slice.sliceFields
  refine wpAny_bind (wpAny_bind (wpAny_field hos hds (x := vl) rfl (wpAny_bind (wpAny_field hos hds (x := vu) rfl (wpAny_bind (wpAny_field hos hds (x := vs) rfl (wpAny_pure ?_)))))))
  refine wpAny_bind (slicePart_ ps ?_)
  show wpAny _ _ (if ((-1 : Int) == 0) = true then _ else _) _ _ s
  rw [if_neg (by decide)]
  refine wpAny_bind (slicePart_ pl (wpAny_bind (slicePart_ pu (wpAny_bind (wpAny_pure ?_)))))
  show wpAny _ _ (match Builtin.Slice.sliceAdjust none none (-1) (n : Int) with | (lo, hi) => pure (lo, (-1 : Int), Builtin.Slice.slicePlaces lo hi (-1))) _ _ s
  rw [adjust_rev n]
  show wpAny _ _ (pure ((n : Int) - 1, (-1 : Int), Builtin.Slice.slicePlaces ((n : Int) - 1) (-1) (-1))) _ _ s
  rw [places_rev]
  exact wpAny_pure h
theorem fm_congr {α β : Type} {f g : α → Option β} : ∀ {l : List α}, (∀ a ∈ l, f a = g a) → l.filterMap f = l.filterMap g
  | [], _ => rfl
  | a :: l, h => by
    rw [List.filterMap_cons, List.filterMap_cons, h a List.mem_cons_self, fm_congr fun b hb => h b (List.mem_cons_of_mem _ hb)]
theorem pick_rev (xs : Array Value) : ((List.range xs.size).filterMap fun (m : Nat) => xs[((xs.size : Int) - 1 + (m : Int) * (-1)).toNat]?).toArray = xs.toList.reverse.toArray := by
  congr 1
  refine List.ext_getElem? fun i => ?_
  have e : (List.range xs.size).filterMap (fun (m : Nat) => xs[((xs.size : Int) - 1 + (m : Int) * (-1)).toNat]?) = (List.range xs.size).map (fun m => xs.getD (xs.size - 1 - m) .none) := by
    rw [← List.filterMap_eq_map]
    refine fm_congr fun m hm => ?_
    have := List.mem_range.mp hm
    have e2 : ((xs.size : Int) - 1 + (m : Int) * (-1)).toNat = xs.size - 1 - m := by omega
    rw [e2]
    show _ = some (xs.getD (xs.size - 1 - m) .none)
    rw [Array.getD_eq_getD_getElem?, Array.getElem?_eq_getElem (by omega)]
    rfl
  rw [e]
  by_cases hi : i < xs.size
  · rw [List.getElem?_map, List.getElem?_range hi, List.getElem?_reverse (by simpa using hi)]
    simp only [Option.map_some, Array.length_toList, Array.getElem?_toList]
    rw [Array.getD_eq_getD_getElem?, Array.getElem?_eq_getElem (by omega)]
    rfl
  · rw [List.getElem?_eq_none (by simpa using hi), List.getElem?_eq_none (by simpa using hi)]
theorem getItem_tuple_rev {t sl : Addr} {items : Array Value} {vl vu vs : Value} {Q : Value → Shared → Prop} (ht : IsTup s.heap t items) (hs : s.heap.IsSliceOf sl vl vu vs) (pl : IsPart vl none) (pu : IsPart vu none) (ps : IsPart vs (some (-1)))
    (h : Q (.ref s.heap.objs.size) { s with heap := s.heap.push { cls := .type "tuple", data := .seq items.toList.reverse.toArray } })
    (hsz : items.size ≤ sizeLine) : wpAny (model prog w) A (getItem (.ref t) (.ref sl)) Q E s := by
  have htake : sizeOk (.seq items.toList.reverse.toArray) := by
    show items.toList.reverse.toArray.size ≤ sizeLine
    rw [List.size_toArray, List.length_reverse, Array.length_toList]
    omega
  obtain ⟨os, hos, hcs, hds⟩ := id hs
  have hTs : s.TypeIs (.ref sl) "slice" := ⟨os, hos, hcs⟩
  unfold getItem
  try with_reducible refine wpAny_holding ?_
  first | refine wpAny_bind (wpAny_pure ?_) | skip
  refine wpAny_bind (wpAny_sequenceKey ht.typeIs (by decide) ?_)
  refine wpAny_bind (wpAny_callSpecial?_slot (name := Str.ofString "__getitem__") ht.typeIs PyProof.Rows.slot_tuple_getitem
    (wpAny_call_entry PyProof.Rows.slot_tuple_getitem ht.typeIs entry_tuple_getitem ?_ (args_tuple_getitem _ _)))
  show wpAny _ _ (Builtin.Tuple.tupleItemsOf (.ref t) >>= _) _ _ s
  refine wpAny_bind (tupleItemsOf_ ht ?_)
  refine wpAny_bind (wpAny_typeOf hTs ?_)
  rw [if_pos (by decide)]
  refine wpAny_bind (sliceApplied_rev hs pl pu ps ?_)
  have hno : ¬ ((((items.size : Int) - 1) == 0 && (-1 : Int) == 1 && items.size == items.size) = true) := by
    intro q
    rw [Bool.and_eq_true, Bool.and_eq_true] at q
    exact absurd q.1.2 (by decide)
  show wpAny _ _ (if (((items.size : Int) - 1) == 0 && (-1 : Int) == 1 && items.size == items.size) = true then _ else _) _ _ s
  rw [if_neg hno, pick_rev]
  first
    | exact wpAny_bind (m := Builtin.Tuple.tupleExact _) (wpAny_newObj_type (wpAny_pure ⟨_, rfl, wpAny_pure h⟩) htake)
    | exact wpAny_bind (m := Builtin.Tuple.tupleExact _) (wpAny_newObj_type (wpAny_bind (wpAny_pure (wpAny_pure ⟨_, rfl, wpAny_pure h⟩))) htake)
    | exact wpAny_bind (wpAny_bind (m := Builtin.Tuple.tupleExact _) (wpAny_newObj_type (wpAny_pure (wpAny_pure ⟨_, rfl, wpAny_pure h⟩)) htake))
    | exact wpAny_bind (wpAny_bind (m := Builtin.Tuple.tupleExact _) (wpAny_newObj_type (wpAny_pure ⟨_, rfl, wpAny_pure h⟩) htake))
end
end HT
namespace Dv
open PySem PySem.Spec PyProof.Rows L2
set_option autoImplicit false
/-! ### x[::-1] -/
def tRev2 (K : PySem.W.Frag) (te : TE) : TE := fun σ H Q => te σ H fun x H1 => ∃ a xs, x = .ref a ∧ ((SqL K H1 a xs ∧ ∀ p, H1 p = none → Q (.ref p) (upd H1 p (.lst xs.reverse))) ∨ (SqT K H1 a xs ∧ ∀ p, H1 p = none → Q (.ref p) (upd H1 p (.tup xs.reverse))))
theorem pe_rev2 {X : Cx} {e : Expr} {te : TE} {k : Nat} {p1 p2 p3 pos : Pos} (he : PE X e te) : PE X (.Subscript e (.Slice none none (some (.UnaryOp .USub (.Constant (.int 1) k p1) p2)) p3) pos) (tRev2 X.K te) := by
  refine ⟨fun pins s σ H Q I h => ?_⟩
  refine Subscript_ (thn (he.run pins s σ H _ I h) fun v s1 ⟨x, H1, I1, r1, q1⟩ => ?_)
  obtain ⟨a, xs, ex, q⟩ := q1
  subst ex
  cases r1
  have hst : PO X (some (.UnaryOp .USub (.Constant (.int 1) k p1) p2)) (tPart (tUn (rU fun i => .int (-i)) (tC (.int 1)))) := po_some (pe_un un_neg pe_int)
  refine wpAny_Slice (thn (po_none.run pins s1 σ H1 (fun o H2 => o = none ∧ H2 = H1) I1 ⟨rfl, rfl⟩) fun vl s2 ⟨l, H2, I2, pl, el, e2⟩ => ?_)
  subst el e2
  refine thn (po_none.run pins s2 σ H2 (fun o H3 => o = none ∧ H3 = H2) I2 ⟨rfl, rfl⟩) fun vu s3 ⟨u, H3, I3, pu, eu, e3⟩ => ?_
  subst eu e3
  refine thn (hst.run pins s3 σ H3 (fun o H4 => o = some (-1) ∧ H4 = H3) I3 ⟨1, rfl, -1, rfl, rfl, rfl⟩) fun vs s4 ⟨o, H4, I4, ps, eo, e4⟩ => ?_
  subst eo e4
  have I5 : Inv X pins σ H4 { s4 with heap := s4.heap.push { cls := .type "slice", data := .fields #[vl, vu, vs] } } := I4.kept (t' := s4.toks) fun b ob q => Heap.get?_push_of_some _ q
  show wpAny (model X.prog X.w) X.A (subscriptTail e (.Slice none none (some (.UnaryOp .USub (.Constant (.int 1) k p1) p2)) p3) (.ref a) (.ref s4.heap.objs.size)) (EP X pins σ Q) X.xe { s4 with heap := s4.heap.push { cls := .type "slice", data := .fields #[vl, vu, vs] } }
  rcases q with ⟨hx, q⟩ | ⟨hx, q⟩
  · obtain ⟨its, r, ht, hz⟩ := I5.list hx
    have hlen := r.length
    refine tail_any (ops := [.ref a, .ref s4.heap.objs.size]) ht.isList.typeIs (PySem.slot_list_getitem.lookup) ?_ (by with_unfolding_all rfl)
    refine wpAny_getItem_list_slice ht.isList (Heap.IsSliceOf.new _ vl vu vs) pl pu ps (by decide) ?_ (by rw [List.size_toArray]; omega)
    rw [PySem.W.krv_pick]
    refine ⟨.ref _, _, I5.laid (t' := s4.toks) (o := .lst xs.reverse) (fun b ob q => Heap.get?_push_of_some _ q) (Nat.le_refl _) ?_, rfl, q _ (I5.hok.fresh (Nat.le_refl _))⟩
    exact ⟨by rw [List.length_reverse]; exact hz, _, 0, r.reverse, Heap.get?_push_size _ rfl⟩
  · obtain ⟨its, r, ht, hz⟩ := I5.tuple hx
    have hlen := r.length
    refine tail_any (ops := [.ref a, .ref s4.heap.objs.size]) ht.typeIs (PyProof.Rows.slot_tuple_getitem.lookup) ?_ (by with_unfolding_all rfl)
    refine HT.getItem_tuple_rev ht (Heap.IsSliceOf.new _ vl vu vs) pl pu ps ?_ (by rw [List.size_toArray]; omega)
    refine ⟨.ref _, _, I5.laid (t' := s4.toks) (o := .tup xs.reverse) (fun b ob q => Heap.get?_push_of_some _ q) (Nat.le_refl _) ?_, rfl, q _ (I5.hok.fresh (Nat.le_refl _))⟩
    exact ⟨by rw [List.length_reverse]; exact hz, _, r.reverse, IsTup.new _ _⟩
def dRev (S : Store) (d : D) : Option D := match vw S d with
  | .tup xs => some (.tup xs.reverse)
  | .lst _ xs => some (.lst true xs.reverse)
  | .rol xs => some (.lst true xs.reverse)
  | _ => none
def mRev (m : ME) : ME := fun ρ S => (m ρ S).bind fun d S1 => opt (dRev S1 d) S1
section
variable {s : Sit}
theorem se_rev {e : Expr} {m : ME} {k : Nat} {p1 p2 p3 pos : Pos} (he : SE s e m) : SE s (.Subscript e (.Slice none none (some (.UnaryOp .USub (.Constant (.int 1) k p1) p2)) p3) pos) (mRev m) := by
  refine PE.weak (pe_rev2 he) fun σ H Q q => ?_
  obtain ⟨ρ, S, A, c, q⟩ := q
  refine tD_bind c q fun d S1 v H1 _ p1 c1 r1 _ q1 => ?_
  have q2 := q1.on c.cells p1
  cases hf : dRev S1 d with
  | none => rw [hf] at q2; exact q2.elim
  | some x =>
    rw [hf] at q2
    have q4 := fin_opt c1.cells q2
    unfold dRev at hf
    split at hf
    · rename_i ys e
      cases hf
      obtain ⟨a, xs, rfl, h3, h4⟩ := (r1.as c1.cells e).tup
      exact ⟨a, xs, rfl, .inr ⟨h3, new_tup c1.cells h4.reverse q4⟩⟩
    · rename_i f ys e
      cases hf
      obtain ⟨a, xs, rfl, h3, h4⟩ := (r1.as c1.cells e).lst
      exact ⟨a, xs, rfl, .inl ⟨.of h3, new_lst c1.cells h4.reverse q4⟩⟩
    · rename_i ys e
      cases hf
      obtain ⟨a, xs, rfl, h3, h4⟩ := (r1.as c1.cells e).list rfl
      exact ⟨a, xs, rfl, .inl ⟨h3, new_lst c1.cells h4.reverse q4⟩⟩
    · cases hf
/-! ### {} -/
def mDct0 : ME := fun _ S => .ok (.dct true []) S
theorem se_dct0 {pos : Pos} : SE s (.Dict [] [] pos) mDct0 := PE.weak pe_dnewK fun σ H Q q => by
  obtain ⟨ρ, S, A, c, q⟩ := q
  intro p hp
  have sm := same_upd (o := .dK []) hp
  exact q (.ref p) _ (.of_same c.cells sm) (.inr (.inl (.dct (own_some c.cells hp) upd_same .nil))) (.mk c.cells sm hp (.dct upd_same .nil))
/-! ### tuple(range(..)), list(range(..)) -/
def RgO (s : Sit) (A : Wy) (S : Store) (H : Hp) (σ : L2.St) (Q : Int → Int → Hp → Prop) : Res (Int × Int) → Prop
  | .ok d S' => ∀ H', Pst s.X.K A S H S' H' → Q d.1 d.2 H'
  | .exc c fs S' => ∀ dd H', Pst s.X.K A S H S' H' → ExAt s.X.K H' (Own A S') c dd fs → s.W (.ref (s.cad c)) dd σ H'
  | .bad => False
def tDr (s : Sit) (m : Rho → Store → Res (Int × Int)) : L2.St → Hp → (Int → Int → Hp → Prop) → Prop := fun σ H Q => ∃ ρ S A, Cn s ρ S A σ H ∧ RgO s A S H σ Q (m ρ S)
def SR (s : Sit) (e : Expr) (m : Rho → Store → Res (Int × Int)) : Prop := PRg s.X e (tDr s m)
def mRg1 (m : ME) : Rho → Store → Res (Int × Int) := fun ρ S => (m ρ S).bind fun d S1 => match d with
  | .int n => .ok (0, n) S1
  | _ => .bad
def mRg2 (m n : ME) : Rho → Store → Res (Int × Int) := fun ρ S => (m ρ S).bind fun d S1 => (n ρ S1).bind fun e S2 => match d, e with
  | .int i, .int j => .ok (i, j) S2
  | _, _ => .bad
theorem PRg.weak {X : Cx} {e : Expr} {t t' : L2.St → Hp → (Int → Int → Hp → Prop) → Prop} (h : PRg X e t) (w : ∀ σ H Q, t' σ H Q → t σ H Q) : PRg X e t' := fun pins s σ H Q I q => h pins s σ H Q I (w _ _ _ q)
theorem sr_1 {a : Expr} {m : ME} {p pos : Pos} (hg : Gl s.X "range") (hm : s.X.mg "range" = none) (ha : SE s a m) (na : starEach [a] s.X.env = (false, eval a s.X.env) :: starEach [] s.X.env := by rfl) : SR s (.Call (.Name "range" p) [a] [] pos) (mRg1 m) :=
  PRg.weak (prg_1 hg hm ha na) fun σ H Q q => by
    obtain ⟨ρ, S, A, c, q⟩ := q
    refine ⟨ρ, S, A, c, ?_⟩
    unfold mRg1 at q
    cases e : m ρ S with
    | exc x fs S1 => rw [e] at q; exact q
    | bad => rw [e] at q; exact q
    | ok d S1 =>
      rw [e] at q
      intro v H1 p r f
      cases d with
      | int n => exact ⟨n, int_of r, q H1 p⟩
      | _ => exact q.elim
theorem sr_2 {a b : Expr} {m n : ME} {p pos : Pos} (hg : Gl s.X "range") (hm : s.X.mg "range" = none) (ha : SE s a m) (hb : SE s b n) (na : starEach [a, b] s.X.env = (false, eval a s.X.env) :: starEach [b] s.X.env := by rfl)
    (nb : starEach [b] s.X.env = (false, eval b s.X.env) :: starEach [] s.X.env := by rfl) (hp : (backTo pos (starEach [b] s.X.env)).any (·.1) = false := by rfl) : SR s (.Call (.Name "range" p) [a, b] [] pos) (mRg2 m n) :=
  PRg.weak (prg_2 hg hm ha hb na nb hp) fun σ H Q q => by
    obtain ⟨ρ, S, A, c, q⟩ := q
    refine ⟨ρ, S, A, c, ?_⟩
    unfold mRg2 at q
    cases e : m ρ S with
    | exc x fs S1 => rw [e] at q; exact q
    | bad => rw [e] at q; exact q
    | ok d S1 =>
      rw [e] at q
      intro v H1 p r f
      have c1 := c.step p
      refine ⟨ρ, S1, A, c1, ?_⟩
      dsimp only [bind_ok] at q
      cases e2 : n ρ S1 with
      | exc x fs S2 => rw [e2] at q; intro dd H2 p2 z; exact q dd H2 (p.trans p2) z
      | bad => rw [e2] at q; exact q
      | ok d2 S2 =>
        rw [e2] at q
        intro v2 H2 p2 r2 f2
        cases d with
        | int i =>
          cases d2 with
          | int j => exact ⟨i, j, int_of r, int_of r2, q H2 (p.trans p2)⟩
          | _ => exact q.elim
        | _ => exact q.elim
def rgD (i j : Int) : List D := (List.range (j - i).toNat).map fun k => D.int (i + (k : Nat))
def rgFine (i j : Int) : Bool := decide (i ≤ 16777216 ∧ -16777216 ≤ i ∧ j ≤ 16777216 ∧ -16777216 ≤ j ∧ j - i ≤ 16777216)
def mTupRg (m : Rho → Store → Res (Int × Int)) : ME := fun ρ S => (m ρ S).bind fun d S1 => if rgFine d.1 d.2 then .ok (.tup (rgD d.1 d.2)) S1 else .bad
def mLstRg (m : Rho → Store → Res (Int × Int)) : ME := fun ρ S => (m ρ S).bind fun d S1 => if rgFine d.1 d.2 then .ok (.lst true (rgD d.1 d.2)) S1 else .bad
theorem rgFine_ok {i j : Int} (h : rgFine i j = true) : RgOk i j := by
  unfold rgFine at h
  have h := of_decide_eq_true h
  exact ⟨by omega, by omega, by omega, by omega, by omega⟩
theorem rgV_rp {K : PySem.W.Frag} {H : Hp} {O : Ow} (i j : Int) : RpAll K H O (rgV i j) (rgD i j) := by
  unfold rgV rgD
  generalize List.range (j - i).toNat = l
  induction l with
  | nil => exact .nil
  | cons x xs ih => exact .cons (.int _) ih
theorem rg_red {m : Rho → Store → Res (Int × Int)} {k : Int × Int → Store → Res D} {σ : L2.St} {H : Hp} {Q : VK} {R : Int → Int → Hp → Prop} {ρ : Rho} {S : Store} {A : Wy} (c : Cn s ρ S A σ H) (q : EOut s A S H σ Q ((m ρ S).bind k))
    (go : ∀ d S1 H1, Pst s.X.K A S H S1 H1 → Cn s ρ S1 A σ H1 → EOut s A S1 H1 σ Q (k d S1) → R d.1 d.2 H1) : tDr s m σ H R := by
  refine ⟨ρ, S, A, c, ?_⟩
  cases e : m ρ S with
  | exc x fs S1 => rw [e] at q; exact q
  | bad => rw [e] at q; exact q
  | ok d S1 => rw [e] at q; intro H1 p; exact go d S1 H1 p (c.step p) (q.on c.cells p)
theorem se_tupRg {e : Expr} {m : Rho → Store → Res (Int × Int)} {p pos : Pos} (hc : s.X.calm = true) (hg : Gl s.X "tuple") (hm : s.X.mg "tuple" = none) (he : SR s e m) (na : starEach [e] s.X.env = (false, eval e s.X.env) :: starEach [] s.X.env := by rfl) : SE s (.Call (.Name "tuple" p) [e] [] pos) (mTupRg m) :=
  PE.weak (pe_tupRg hc hg hm he na) fun σ H Q q => by
    obtain ⟨ρ, S, A, c, q⟩ := q
    refine rg_red (R := fun a b H1 => RgOk a b ∧ ∀ q, H1 q = none → Q (.ref q) (upd H1 q (.tup (rgV a b)))) c q fun d S1 H1 p1 c1 q1 => ?_
    split at q1
    · rename_i h
      exact ⟨rgFine_ok h, new_tup c1.cells (rgV_rp _ _) (fin_opt (x := .tup (rgD d.1 d.2)) c1.cells q1)⟩
    · exact q1.elim
theorem se_lstRg {e : Expr} {m : Rho → Store → Res (Int × Int)} {p pos : Pos} (hc : s.X.calm = true) (hg : Gl s.X "list") (hm : s.X.mg "list" = none) (he : SR s e m) (na : starEach [e] s.X.env = (false, eval e s.X.env) :: starEach [] s.X.env := by rfl) : SE s (.Call (.Name "list" p) [e] [] pos) (mLstRg m) :=
  PE.weak (pe_listRg hc hg hm he na) fun σ H Q q => by
    obtain ⟨ρ, S, A, c, q⟩ := q
    refine rg_red (R := fun a b H1 => RgOk a b ∧ ∀ q, H1 q = none → Q (.ref q) (upd H1 q (.lst (rgV a b)))) c q fun d S1 H1 p1 c1 q1 => ?_
    split at q1
    · rename_i h
      exact ⟨rgFine_ok h, new_lst c1.cells (rgV_rp _ _) (fin_opt (x := .lst true (rgD d.1 d.2)) c1.cells q1)⟩
    · exact q1.elim
/-! ### repr(x), x a list or a tuple -/
def isDisp : PyData → Bool
  | .list _ => true
  | .tuple _ => true
  | _ => false
def showOk (p : PyData) : Bool := isDisp p && p.showable && !p.hasDict && decide (p.depth ≤ 60) && decide (p.shown.length ≤ LINE)
def cRepr (S : Store) (ds : List D) : Option D := match ds with
  | [d] => match toPy (vw S d) with
    | some p => if showOk p then some (.str p.shown) else none
    | none => none
  | _ => none
def rRepr (K : PySem.W.Frag) : List V → Hp → VK → Prop := fun xs H Q => ∃ x p, xs = [x] ∧ Dp K H x p ∧ showOk p = true ∧ Q (.str p.shown) H
theorem call_repr {X : Cx} (hg : X.A.guards = some []) (hu : X.A.units + 65 < cLine) : CallR X (.builtin "repr") (rRepr X.K) := by
  intro pins s σ H xs us Q I r h
  obtain ⟨x, p, rfl, hd, hs, q⟩ := h
  simp only [showOk, Bool.and_eq_true, decide_eq_true_eq, Bool.not_eq_true'] at hs
  obtain ⟨⟨⟨⟨h1, h2⟩, h3⟩, h4⟩, h5⟩ := hs
  cases r with
  | cons rx rt =>
    cases rt
    rename_i u
    obtain ⟨as, r1⟩ := Dp.reads I p x u hd rx
    have hr : ∃ a, u = .ref a := by
      cases p with
      | list _ => cases r1 with | list _ _ _ _ => exact ⟨_, rfl⟩
      | tuple _ => cases r1 with | tuple _ _ _ _ => exact ⟨_, rfl⟩
      | _ => cases h1
    obtain ⟨a, rfl⟩ := hr
    refine repr_of_reads' r1 h2 (PyData.noDict_hsm h3) hg (by omega) (fun _ _ e => e) (fun h' u tk hk => ?_) (by rw [line_eq]; exact h5)
    exact ⟨.str p.shown, H, I.kept hk, ⟨_, rfl⟩, q⟩
theorem sem_repr : CallSem s cRepr (rRepr s.X.K) := by
  intro A S H vs ds x Q c r hf q
  unfold cRepr at hf
  split at hf
  · rename_i d
    split at hf
    · rename_i p hp
      split at hf
      · rename_i hs
        cases hf
        obtain ⟨v, rfl, rr⟩ := r.one
        have n : ∀ k fs, vw S d ≠ .err k fs := fun k fs z => by rw [z] at hp; simp [toPy] at hp
        exact ⟨v, p, rfl, (rr.seen c n).dp hp, hs, old_of (.str _) rfl q⟩
      · cases hf
    · cases hf
  · cases hf
end
end Dv

set_option maxHeartbeats 4000000
namespace Dv
open PySem PySem.Spec PyProof.Rows L2
set_option autoImplicit false
/-! ### sorting ints -/
def uins (k : Int) : List Int → List Int
  | [] => [k]
  | x :: xs => if k < x then k :: x :: xs else if k = x then x :: xs else x :: uins k xs
def usort : List Int → List Int
  | [] => []
  | x :: xs => uins x (usort xs)
theorem mem_uins {k j : Int} : ∀ {xs : List Int}, j ∈ uins k xs ↔ j = k ∨ j ∈ xs
  | [] => by simp [uins]
  | x :: xs => by
    unfold uins
    split
    · simp
    · split
      · rename_i h; subst h; simp
      · simp only [List.mem_cons, mem_uins (xs := xs)]
        constructor
        · rintro (h | h | h) <;> simp [h]
        · rintro (h | h | h) <;> simp [h]
theorem mem_usort {j : Int} : ∀ {xs : List Int}, j ∈ usort xs ↔ j ∈ xs
  | [] => by simp [usort]
  | x :: xs => by simp [usort, mem_uins, mem_usort (xs := xs)]
theorem pw_uins {k : Int} : ∀ {xs : List Int}, xs.Pairwise (· < ·) → (uins k xs).Pairwise (· < ·)
  | [], _ => by simp [uins]
  | x :: xs, h => by
    rw [List.pairwise_cons] at h
    unfold uins
    split
    · rename_i hk
      refine List.pairwise_cons.mpr ⟨fun y hy => ?_, List.pairwise_cons.mpr h⟩
      rcases List.mem_cons.mp hy with e | hy
      · rw [e]; exact hk
      · have := h.1 y hy; omega
    · split
      · exact List.pairwise_cons.mpr h
      · refine List.pairwise_cons.mpr ⟨fun y hy => ?_, pw_uins h.2⟩
        rcases mem_uins.mp hy with e | hy
        · omega
        · exact h.1 y hy
theorem pw_usort : ∀ xs : List Int, (usort xs).Pairwise (· < ·)
  | [] => by simp [usort]
  | x :: xs => pw_uins (pw_usort xs)
/-- strictly ascending lists of the same members are the same -/
theorem asc_eq : ∀ {xs ys : List Int}, xs.Pairwise (· < ·) → ys.Pairwise (· < ·) → (∀ k, k ∈ xs ↔ k ∈ ys) → xs = ys
  | [], [], _, _, _ => rfl
  | [], y :: ys, _, _, h => by have := (h y).mpr (by simp); simp at this
  | x :: xs, [], _, _, h => by have := (h x).mp (by simp); simp at this
  | x :: xs, y :: ys, h1, h2, h => by
    rw [List.pairwise_cons] at h1 h2
    have e : x = y := by
      have a := (h x).mp (by simp)
      have b := (h y).mpr (by simp)
      rcases List.mem_cons.mp a with a | a
      · exact a
      · rcases List.mem_cons.mp b with b | b
        · exact b.symm
        · have := h1.1 y b; have := h2.1 x a; omega
    subst e
    refine congrArg _ (asc_eq h1.2 h2.2 fun k => ?_)
    constructor
    · intro hk
      rcases List.mem_cons.mp ((h k).mp (List.mem_cons_of_mem _ hk)) with e | z
      · have := h1.1 k hk; omega
      · exact z
    · intro hk
      rcases List.mem_cons.mp ((h k).mpr (List.mem_cons_of_mem _ hk)) with e | z
      · have := h2.1 k hk; omega
      · exact z
theorem asc_nodup {xs : List Int} (h : xs.Pairwise (· < ·)) : xs.Nodup := h.imp fun h => by omega
/-- with repetitions -/
def oins (k : Int) : List Int → List Int
  | [] => [k]
  | x :: xs => if k ≤ x then k :: x :: xs else x :: oins k xs
def osort : List Int → List Int
  | [] => []
  | x :: xs => oins x (osort xs)
theorem perm_oins {k : Int} : ∀ {xs : List Int}, (oins k xs).Perm (k :: xs)
  | [] => .refl _
  | x :: xs => by
    unfold oins
    split
    · exact .refl _
    · exact (perm_oins.cons x).trans (.swap k x xs)
theorem perm_osort : ∀ {xs : List Int}, (osort xs).Perm xs
  | [] => .refl _
  | x :: xs => perm_oins.trans (perm_osort.cons x)
theorem pw_oins {k : Int} : ∀ {xs : List Int}, xs.Pairwise (· ≤ ·) → (oins k xs).Pairwise (· ≤ ·)
  | [], _ => by simp [oins]
  | x :: xs, h => by
    rw [List.pairwise_cons] at h
    unfold oins
    split
    · rename_i hk
      refine List.pairwise_cons.mpr ⟨fun y hy => ?_, List.pairwise_cons.mpr h⟩
      rcases List.mem_cons.mp hy with e | hy
      · rw [e]; exact hk
      · have := h.1 y hy; omega
    · refine List.pairwise_cons.mpr ⟨fun y hy => ?_, pw_oins h.2⟩
      rcases List.mem_cons.mp (perm_oins.mem_iff.mp hy) with e | hy
      · omega
      · exact h.1 y hy
theorem pw_osort : ∀ xs : List Int, (osort xs).Pairwise (· ≤ ·)
  | [] => by simp [osort]
  | x :: xs => pw_oins (pw_osort xs)
theorem ord_eq : ∀ {xs ys : List Int}, xs.Pairwise (· ≤ ·) → ys.Pairwise (· ≤ ·) → xs.Perm ys → xs = ys
  | [], ys, _, _, h => h.nil_eq
  | x :: xs, [], _, _, h => by have := h.length_eq; simp at this
  | x :: xs, y :: ys, h1, h2, h => by
    have q1 := List.pairwise_cons.mp h1
    have q2 := List.pairwise_cons.mp h2
    have e : x = y := by
      have a := h.mem_iff.mp (List.mem_cons_self (a := x))
      have b := h.mem_iff.mpr (List.mem_cons_self (a := y))
      rcases List.mem_cons.mp a with a | a
      · exact a
      · rcases List.mem_cons.mp b with b | b
        · exact b.symm
        · have := q1.1 y b; have := q2.1 x a; omega
    subst e
    exact congrArg _ (ord_eq q1.2 q2.2 (List.Perm.cons_inv h))
def cSortI (S : Store) (ds : List D) : Option D := ((listArg S ds).bind intsOf).map fun ns => .lst true ((osort ns).map .int)
section
variable {s : Sit}
theorem sem_sortI : CallSem s cSortI (rSortedI s.X.K) := by
  intro A S H vs ds x Q c r hf q
  simp only [cSortI, Option.map_eq_some_iff, Option.bind_eq_some_iff] at hf
  obtain ⟨ns, ⟨xs, h1, h2⟩, rfl⟩ := hf
  obtain ⟨a, ys, rfl, h3, h4⟩ := listArg_ok c r h1
  rw [intsOf_eq h2] at h4
  rw [h4.ints] at h3
  refine ⟨a, ns, rfl, h3, fun ns' p pm pw hp => ?_⟩
  rw [ord_eq pw (pw_osort ns) (pm.trans perm_osort.symm)]
  exact new_lst c (rpAll_ints (osort ns)) q p hp
/-! ### sorted(set(t)) -/
def tSortSetT (K : PySem.W.Frag) (ta : TE) : TE := fun σ H Q => ta σ H fun x H1 => ∃ (l : Addr) (ns : List Int), x = V.ref l ∧ SqT K H1 l (ns.map V.int) ∧ ns.length ≤ 1000 ∧ (usort ns).length < 64 ∧ ∀ p, H1 p = none → Q (.ref p) (upd H1 p (.lst ((usort ns).map V.int)))
theorem sorted_at {X : Cx} (hc : X.calm = true) {pins : List (Addr × Obj)} {σ : L2.St} {H1 : Hp} {sA : Shared} {l : Addr} {c : Nat} {S : Int → Bool} {ns : List Int} {Q : VK} (I2 : Inv X pins σ H1 sA) (R : SetR X.w sA.heap l S c) (hc64 : c < 64) (hS : ∀ k, S k = true ↔ k ∈ ns)
    (q1 : ∀ p, H1 p = none → Q (.ref p) (upd H1 p (.lst ((usort ns).map V.int)))) : wpAny (model X.prog X.w) X.A (call (.builtin "sorted") [.ref l]) (EP X pins σ Q) X.xe sA := by
  refine sorted_set (w := X.w) R (I2.ok.hd hc) hc64 fun s' p out cc ns' kk gg oo hp hget hi pw hmem hl => ?_
  have e : ns' = usort ns := asc_eq pw (pw_usort ns) fun j => by rw [hmem j, mem_usort, hS j]
  subst e
  have hlen : ((usort ns).map V.int).length ≤ sizeLine := by rw [List.length_map, sizeLine_eq]; omega
  have hn : H1 p = none := I2.hok.fresh hp
  have J : Inv X pins σ (upd H1 p (.lst ((usort ns).map V.int))) { sA with heap := s'.heap, gens := s'.gens, drawn := s'.drawn, toks := s'.toks } :=
    I2.call (ch := []) (Un.laid kk hp hn) (I2.hok.laid kk hp ⟨hlen, out.toList, cc, vals_of_ints hi, hget⟩) (by rw [gg]; exact I2.bare) (fun _ z => nomatch z)
  have e2 : s' = { sA with heap := s'.heap, gens := s'.gens, drawn := s'.drawn, toks := s'.toks } := by
    cases s'
    cases sA
    cases oo
    rfl
  rw [e2]
  exact ⟨.ref p, _, J, rfl, q1 p hn⟩
theorem pe_sortSetT {X : Cx} {a : Expr} {ta : TE} {p p2 q pos : Pos} (hc : X.calm = true) (hg : Gl X "sorted") (hm : X.mg "sorted" = none) (hg2 : Gl X "set") (hm2 : X.mg "set" = none) (ha : PE X a ta)
    (na : starEach [a] X.env = (false, eval a X.env) :: starEach [] X.env := by rfl) : PE X (.Call (.Name "sorted" p) [.Call (.Name "set" p2) [a] [] q] [] pos) (tSortSetT X.K ta) := by
  refine ⟨fun pins s σ H Q I h => ?_⟩
  refine Call_ (ld_blt I hg hm PyProof.Rows.boot_sorted ?_)
  refine PyProof.Rows.callWith_builtin1 (PyProof.Rows.args_cons ?_ rfl) rfl rfl
  refine Call_ (ld_blt I hg2 hm2 PyProof.Rows.boot_set ?_)
  refine PyProof.Rows.callWith_type1 (PyProof.Rows.args_cons (thn (ha.run pins s σ H _ I h) fun v s1 ⟨x, H1, I1, r1, q1⟩ => PyProof.Rows.args_nil ?_) na) na rfl
  obtain ⟨l, ns, rfl, hq, h1, h64, q1⟩ := q1
  cases r1
  obtain ⟨its, rv, pt, hz⟩ := I1.tuple hq
  refine call_set_tupI ns (I1.ok.hd hc) (show s1.heap.IsTuple l its.toArray from pt) (ints_of_vals rv) (by unfold scanBound; omega) fun h' tk c R hcn k => ?_
  refine PyProof.Rows.args_nil ?_
  have I2 : Inv X pins σ H1 { s1 with heap := h', toks := tk } := I1.kept k
  have hc64 : c < 64 := by
    obtain ⟨o, es, ep, t, ho, hex, hd, g, nd, hmem, hb, hf, hn, hr, hl⟩ := R
    have pm : (es.toList.map keyOf).Perm (usort ns) := (List.perm_ext_iff_of_nodup nd (asc_nodup (pw_usort ns))).mpr fun j => by
      rw [← hmem j, mem_usort]; simp
    have := pm.length_eq
    rw [List.length_map, Array.length_toList] at this
    omega
  exact sorted_at hc I2 R hc64 (fun k => by simp) q1
def mSortSetT (m : ME) : ME := fun ρ S => (m ρ S).bind fun d S1 => match vw S1 d with
  | .tup xs => match intsOf xs with
    | some ns => if decide (ns.length ≤ 1000) && decide ((usort ns).length < 64) then .ok (.lst true ((usort ns).map .int)) S1 else .bad
    | none => .bad
  | _ => .bad
theorem se_sortSetT {a : Expr} {m : ME} {p p2 q pos : Pos} (hc : s.X.calm = true) (hg : Gl s.X "sorted") (hm : s.X.mg "sorted" = none) (hg2 : Gl s.X "set") (hm2 : s.X.mg "set" = none) (ha : SE s a m)
    (na : starEach [a] s.X.env = (false, eval a s.X.env) :: starEach [] s.X.env := by rfl) : SE s (.Call (.Name "sorted" p) [.Call (.Name "set" p2) [a] [] q] [] pos) (mSortSetT m) := by
  refine PE.weak (pe_sortSetT hc hg hm hg2 hm2 ha na) fun σ H Q q => ?_
  obtain ⟨ρ, S, A, c, q⟩ := q
  refine tD_bind c q fun d S1 v H1 _ p1 c1 r1 _ q1 => ?_
  have q2 := q1.on c.cells p1
  split at q2
  · rename_i ys e
    split at q2
    · rename_i ns hi
      split at q2
      · rename_i hp
        simp only [Bool.and_eq_true, decide_eq_true_eq] at hp
        obtain ⟨a, xs, rfl, h3, h4⟩ := (r1.as c1.cells e).tup
        rw [intsOf_eq hi] at h4
        rw [h4.ints] at h3
        exact ⟨a, ns, rfl, h3, hp.1, hp.2, new_lst c1.cells (rpAll_ints (usort ns)) (fin_opt (x := .lst true ((usort ns).map .int)) c1.cells q2)⟩
      · exact q2.elim
    · exact q2.elim
  · exact q2.elim
end
end Dv

set_option maxHeartbeats 4000000
namespace Dv
open PySem PySem.Spec PyProof.Rows L2
set_option autoImplicit false
/-! ### a, b = e1, e2 -/
def mPar (base i j : Nat) (oj : Bool) (m n : ME) : MS := fun ρ S => bindE (m ρ S) ρ fun d S1 => bindE (n ρ S1) ρ fun e S2 => match holdV base i d ρ S2 with
  | .nx ρ1 S3 => if oj then holdO base j e ρ1 S3 else holdV base j e ρ1 S3
  | r => r
section
variable {s : Sit} {m n : ME}
theorem holdV_cases {base i : Nat} {d : D} {ρ : Rho} {S : Store} : holdV base i d ρ S = .bad ∨ ∃ d', holdV base i d ρ S = .nx (ρ.set i (some d')) S ∧ ((plain d = true ∧ d' = cool d) ∨ ∃ n, d = .loc n ∧ d' = .loc n ∧ n < base) := by
  by_cases hp : plain d = true
  · exact .inr ⟨cool d, holdV_plain hp, .inl ⟨hp, rfl⟩⟩
  · cases d with
    | loc n =>
      unfold holdV
      dsimp only
      split
      · exact .inr ⟨.loc n, rfl, .inr ⟨n, rfl, rfl, ‹_›⟩⟩
      · exact .inl rfl
    | err _ _ => exact .inl rfl
    | _ => exact absurd rfl hp
theorem par_red {i j : Nat} {oj : Bool} {D : Ends} {σ : L2.St} {H : Hp} (q : tDs s (mPar s.base i j oj m n) D σ H) : tD s m σ H fun x H1 => tD s n σ H1 fun y H2 => D.nx ((σ.set i (some x)).set j (some y)) H2 := by
  obtain ⟨ρ, S, A, c, q⟩ := q
  refine tD_bindS c q fun d S1 v H1 _ p1 c1 r1 _ q1 => ?_
  refine ⟨ρ, S1, A, c1, ?_⟩
  cases e : n ρ S1 with
  | exc x fs S2 => rw [e] at q1; intro dd H2 p z; exact q1 dd σ H2 A (p.pss c1.cells) (c1.step p) z
  | bad => rw [e] at q1; exact q1
  | ok d2 S2 =>
    rw [e] at q1
    dsimp only [bindE_ok] at q1
    intro w H2 p2 r2 f2
    have c2 := c1.step p2
    have r1' := r1.step c1.cells p2
    rcases holdV_cases (base := s.base) (i := i) (d := d) (ρ := ρ) (S := S2) with hb | ⟨d', hb, hd⟩
    · rw [hb] at q1; exact q1.elim
    · rw [hb] at q1
      dsimp only at q1
      have rd' : RpS s.X.K s.Z A S1 H1 v d' := by
        rcases hd with ⟨hp, rfl⟩ | ⟨k, rfl, rfl, hk⟩
        · exact r1.cool hp
        · exact r1
      have c1' : Cn s (ρ.set i (some d')) S1 A (σ.set i (some v)) H1 := c1.setv rd' fun k z => by
        rcases hd with ⟨hp, rfl⟩ | ⟨k', rfl, rfl, hk⟩
        · exact absurd z (cool_loc hp)
        · cases z; exact .inl hk
      cases oj with
      | true => exact holdO_go c1' p2 r2 f2 q1
      | false => exact holdV_go (c1'.step p2) r2 (SOut.on (p2.pss c1.cells) q1)
variable {a b : Expr} {i j : Nat} {oj : Bool} {x y : Str} {px py pt pos : Pos} {kt k2 : Nat} {pt2 : Pos}
theorem s_par (hc : s.X.calm = true) (hN : s.X.N.Nodup) (hi : s.X.N[i]? = some x) (hj : s.X.N[j]? = some y) (hij : i ≠ j)
    (hx : s.X.env.scope.names.lookup x = some .local) (hy : s.X.env.scope.names.lookup y = some .local) (ha : SE s a m) (hb : SE s b n)
    (hw : swappedStores [.Tuple [.Name x px, .Name y py] kt pt] (.Tuple [a, b] k2 pt2) s.X.env = pure (some [x, y]))
    (hs : swapsWithSole [.Tuple [.Name x px, .Name y py] kt pt] (.Tuple [a, b] k2 pt2) pos.line s.X.env = pure false := by rfl)
    (h1 : starEach [a, b] s.X.env = (false, eval a s.X.env) :: starEach [b] s.X.env := by rfl) (h2 : starEach [b] s.X.env = (false, eval b s.X.env) :: starEach [] s.X.env := by rfl) :
    SS s (.Assign [.Tuple [.Name x px, .Name y py] kt pt] (.Tuple [a, b] k2 pt2) pos) (mPar s.base i j oj m n) :=
  PS.weak (ps_par hc hN hi hj hij hx hy (pa_cons ha (pa_cons hb pa_nil h2) h1) hw hs) fun D σ H q =>
    tD_mono (fun v H1 h => tD_mono (fun w H2 h => ⟨v, w, rfl, h⟩) h) (par_red q)
/-- target = e, the target's names hold values -/
def mAsg (t : Tg) (m : ME) : MS := fun ρ S => bindE (m ρ S) ρ fun d S1 => if plain d then (match t (cool d) ρ with
  | some ρ' => .nx ρ' S1
  | none => .bad) else .bad
theorem s_asgT {tg e : Expr} {vs : List Nat} {t : Tg} (he : SE s e m) (hg : SG s tg vs t) (hs : swapsWithSole [tg] e pos.line s.X.env = pure false := by rfl) (hw : swappedStores [tg] e s.X.env = pure none := by rfl)
    (h1 : (assignEach [tg] s.X.env).map (·.2) = [assign tg s.X.env] := by rfl) : SS s (.Assign [tg] e pos) (mAsg t m) :=
  PS.weak (ps_asg he hg hs hw h1) fun D σ H q => by
    obtain ⟨ρ, S, A, c, q⟩ := q
    refine tD_bindS c q fun d S1 v H1 _ p1 c1 r1 _ q1 => ?_
    split at q1
    · rename_i hp
      cases ht : t (cool d) ρ with
      | none => rw [ht] at q1; exact q1.elim
      | some ρ' =>
        rw [ht] at q1
        exact ⟨ρ, S1, A, cool d, ρ', c1, (r1.plain hp).cool, ht, fun σ' _ c2 => q1 σ' H1 A .refl c2⟩
    · exact q1.elim
end
end Dv

set_option maxHeartbeats 4000000
namespace Dv
open PySem PySem.Spec PyProof.Rows L2
set_option autoImplicit false
/-! ### a law's end -/
/-- the law's def as data's function is true of every script -/
def True63 (n : Nat) (m : Fn) : Prop := ∀ ns : List Int, ns.length ≤ n → ∃ S', m [.rol (ns.map .int)] [] = .ok (.bl true) S'
def A0 : Wy := ⟨fun _ => 0, fun _ => False⟩
theorem no_own {S : Store} (h : S = []) {a : Addr} : ¬ Own A0 S a := by
  subst h
  rintro (⟨n, d, h, _⟩ | h)
  · simp at h
  · exact h
theorem cells0 {K : PySem.W.Frag} {H : Hp} : Cells K A0 [] H := ⟨fun n d h => by simp at h, fun n m d e h => by simp at h, fun a h => h.elim, fun a h => h.elim⟩
theorem law_callD {P : Program} {w : World} {K : PySem.W.Frag} {mg mb : Str → Option Value} {cad : Nat → Addr} {k : Nat} {fa a : Addr} {m : Fn} {s₁ : Shared} {vs : List Value} {ns : List Int}
    (KX : K.In s₁.heap) (hns : s₁.heap.Ns mainGlobals mg) (hb : s₁.heap.Ns builtinsNs mb) (hbb : ∀ x : Str, x ≠ "__name__" → mb x = bootBuiltins x) (hlim : s₁.heap.NoLimit) (hg : s₁.gens = #[])
    (ha : s₁.heap.get? a = some { cls := .type "list", data := .seq vs.toArray }) (hi : IntsAre vs ns) (hl : ns.length ≤ sizeLine) (hr : Room k callerA)
    (F : ∀ base : Heap, K.In base → base.Ns mainGlobals mg → FnD ⟨P, w, K, mg, base, cad⟩ k fa 1 m) (hm : ∃ S', m [.rol (ns.map .int)] [] = .ok (.bl true) S') :
    codeAny (model P w) callerA (.call (.ref fa) ⟨[.ref a], []⟩) (fun r s' => r = .ok (.ret (.bool true)) ∧ OldK s₁.heap s'.heap ∧ s'.os = s₁.os ∧ AllBare s'.gens) s₁ := by
  have rv := vals_ints hi
  have lenV := hi.length
  have core : ∀ H : Hp, Only H → Ro K H a (ns.map V.int) → HOk P w H s₁.heap → (∀ b, H b ≠ none → b = a) → (H a ≠ none → K.lookup a = none) →
      codeAny (model P w) callerA (.call (.ref fa) ⟨[.ref a], []⟩) (fun r s' => r = .ok (.ret (.bool true)) ∧ OldK s₁.heap s'.heap ∧ s'.os = s₁.os ∧ AllBare s'.gens) s₁ := by
    intro H hO hS hok hA hK
    have nota : ∀ {b : Addr}, b ≠ a → H b = none := fun {b} n => Classical.byContradiction fun z => n (hA b z)
    have base_of : ∀ {b : Addr} {o : Obj}, s₁.heap.get? b = some o → H b = none → (hidT s₁.heap H).get? b = some o := fun e n => hidT_get e n
    have dictNot : ∀ {b : Addr} {o : Obj} {es : Array DictEntry} {ep : Nat}, s₁.heap.get? b = some o → o.data = .dict es ep → H b = none := fun {b o es ep} e d => nota fun z => by
      subst z
      rw [ha] at e; cases e
      exact nomatch (show Data.seq vs.toArray _ = Data.dict es ep from d)
    have nsK : ∀ {b : Addr} {m : Str → Option Value}, s₁.heap.Ns b m → (hidT s₁.heap H).Ns b m := fun {b m} ⟨o, es, ep, e, d, r⟩ => ⟨o, es, ep, base_of e (dictNot e d), d, r⟩
    have hKb : K.In (hidT s₁.heap H) := fun b o e => base_of (KX b o e) (Classical.byContradiction fun z => by
      have e2 := hA b z
      subst e2
      rw [hK z] at e; cases e)
    have hM : Mod K mg (hidT s₁.heap H) := ⟨hKb, nsK hns, ⟨mb, nsK hb, hbb⟩, let ⟨mc, h1, h2⟩ := hlim; ⟨mc, nsK h1, h2⟩⟩
    have e0 : Env0 P w K mg (hidT s₁.heap H) callerA [] s₁ H := ⟨rfl, hM, fun b o e => of_hidT e, Nat.le_of_eq (hidT_size _ _), trivial, fun b hb => absurd (show b ∈ ([] : List Addr) from hb) (by simp), hok, .of_eq hg⟩
    obtain ⟨S', hm⟩ := hm
    have rs : Rp K H (Own A0 []) (.ref a) (.rol (ns.map .int)) := .rol hS (rpAll_ints ns)
    have sp : spD K cad m [.ref a] H (fun v _ => v = .bl true) (fun _ _ _ => False) := by
      refine ⟨[], A0, [.rol (ns.map .int)], cells0, .cons (.inr (.inl rs)) .nil, ?_⟩
      rw [hm]
      intro v H' _ r _
      rcases r with ⟨_, _, z, _⟩ | r | ⟨_, _, _, z, _⟩
      · cases z
      · cases r; rfl
      · cases z
    refine codeAny_mono (F _ hKb (nsK hns) callerA [] s₁ H [.ref a] [.ref a] _ _ hr rfl e0 (.cons rfl .nil) rfl sp) fun r s' h => ?_
    cases r with
    | error e =>
      obtain ⟨_, _, _, _, _, _, _, _, _, _, _, _, z⟩ := h
      exact z.elim
    | ok fl =>
      cases fl with
      | next => exact False.elim h
      | brk => exact False.elim h
      | cont => exact False.elim h
      | ret u =>
        obtain ⟨v, H', os, bare, un, hok', r', q⟩ := h
        have q' : v = .bl true := q
        subst q'
        obtain rfl : u = Value.bool true := r'
        refine ⟨rfl, OldK.of_keep fun b o e => ?_, os, bare⟩
        cases q : H b with
        | none => exact un.keep b o e q (by intro z; exact absurd (show b ∈ ([] : List Addr) from z) (by simp)) (by simp)
        | some u =>
          rcases hO b with z | ⟨ob, xs, z⟩
          · rw [q] at z; cases z
          · have z2 := un.frzs b ob _ z
            obtain ⟨e1, _⟩ := hok b _ z
            obtain ⟨e2, _⟩ := hok' b _ z2
            rw [e] at e1; cases e1
            exact e2
  cases hk : K.lookup a with
  | some o =>
    have e := KX a o hk
    rw [ha] at e
    cases e
    exact core (fun _ => none) (fun _ => .inl rfl) (.inr ⟨_, vs.toArray, _, hk, rfl, rfl, rfl, by rw [List.size_toArray, lenV]; exact hl, by simpa using rv⟩) (fun b u z => nomatch (show (none : Option HO) = some u from z)) (fun b z => absurd rfl z) fun z => absurd rfl z
  | none =>
    have at1 : ∀ b, b = a → (fun b => if b = a then some (HO.frz { cls := .type "list", data := .seq vs.toArray } (.lst (ns.map V.int))) else none : Hp) b = some (.frz { cls := .type "list", data := .seq vs.toArray } (.lst (ns.map V.int))) := fun b h => if_pos h
    have at2 : ∀ b, b ≠ a → (fun b => if b = a then some (HO.frz { cls := .type "list", data := .seq vs.toArray } (.lst (ns.map V.int))) else none : Hp) b = none := fun b h => if_neg h
    refine core (fun b => if b = a then some (.frz { cls := .type "list", data := .seq vs.toArray } (.lst (ns.map V.int))) else none) (fun b => ?_) (.inl ⟨_, at1 a rfl⟩) (fun b u z => ?_) (fun b z => ?_) fun _ => hk
    · by_cases hb : b = a
      · exact .inr ⟨_, _, at1 b hb⟩
      · exact .inl (at2 b hb)
    · by_cases hb : b = a
      · have z' := (at1 b hb).symm.trans z
        cases z'
        subst hb
        exact ⟨ha, by rw [List.length_map]; exact hl, vs, _, rv, ha⟩
      · have z' := (at2 b hb).symm.trans z
        cases z'
    · by_cases hb : b = a
      · exact hb
      · exact absurd (at2 b hb) z
theorem walk_D {l : PySem.W.OpenLaw} {n k : Nat} {q : Program} {loose : List Str} {XP : (Str → Option Value) → Heap → Prop} {YP : World → Heap → Prop} {d : DefRec} {m : Fn}
    (hn : l.most = some n) (hn2 : n ≤ sizeLine) (hdf : d.params.defaults = []) (hr : Room k callerA) (hm : True63 n m)
    (F : ∀ (w : World) (mg : Str → Option Value) (fa : Addr) (h : Heap), YP w h → h.Ns mainGlobals mg → mg d.name = some (.ref fa) →
      ∃ (K : PySem.W.Frag) (cad : Nat → Addr), K.In h ∧ ∀ base : Heap, K.In base → base.Ns mainGlobals mg → FnD ⟨l.prog, w, K, mg, base, cad⟩ k fa 1 m) :
    PySem.W.WalkO q loose XP YP l.row.toRowW d [] (fun f vs => PySem.call f vs) := by
  refine Att.attach_call hn hdf fun w s₀ s₁ mg mb fa o pm cd doc a vs ns G Y ho hd hcd hmg hobj hints hlen hg => ?_
  obtain ⟨K, cad, KX, hF⟩ := F w mg fa _ Y G.T.g hmg
  exact law_callD KX G.T.g G.T.b G.T.builtins G.T.nolimit hg hobj hints (Nat.le_trans hlen hn2) hr hF (hm ns hlen)
end Dv

set_option maxHeartbeats 4000000
namespace Dv
open PySem PySem.Spec PyProof.Rows L2
set_option autoImplicit false
/-! ### for the printed derivations -/
theorem bo_len : bootBuiltins "len" = some (.builtin "len") := by decide +kernel
theorem bo_abs : bootBuiltins "abs" = some (.builtin "abs") := by decide +kernel
theorem bo_max : bootBuiltins "max" = some (.builtin "max") := by decide +kernel
theorem bo_min : bootBuiltins "min" = some (.builtin "min") := by decide +kernel
theorem bo_sum : bootBuiltins "sum" = some (.builtin "sum") := by decide +kernel
theorem bo_all : bootBuiltins "all" = some (.builtin "all") := by decide +kernel
theorem bo_any : bootBuiltins "any" = some (.builtin "any") := by decide +kernel
theorem bo_repr : bootBuiltins "repr" = some (.builtin "repr") := by decide +kernel
theorem bo_sorted : bootBuiltins "sorted" = some (.builtin "sorted") := by decide +kernel
theorem bo_isinstance : bootBuiltins "isinstance" = some (.builtin "isinstance") := by decide +kernel
theorem bo_int : bootBuiltins "int" = some (.type "int") := by decide +kernel
theorem bo_bool : bootBuiltins "bool" = some (.type "bool") := by decide +kernel
theorem bo_str : bootBuiltins "str" = some (.type "str") := by decide +kernel
theorem bo_list : bootBuiltins "list" = some (.type "list") := by decide +kernel
theorem bo_tuple : bootBuiltins "tuple" = some (.type "tuple") := by decide +kernel
theorem bo_dict : bootBuiltins "dict" = some (.type "dict") := by decide +kernel
section
variable {s : Sit} {G : Gd} {k : Nat}
theorem Gs.hu (g : Gs G k s) : s.X.A.units + 65 < cLine := by have := g.room.un; omega
theorem Gs.hu' (g : Gs G k s) : s.X.A.units + 64 < cLine := by have := g.room.un; omega
theorem se_gint {x : Str} {i : Int} {pos : Pos} (hg : Gl s.X x) (hm : ∃ t, s.X.mg x = some (.int i t)) (hd : (x == ("__debug__" : Str)) = false := by decide) : SE s (.Name x pos) (mK (.int i)) := by
  obtain ⟨t, hm⟩ := hm
  exact se_glob hg hm (show RelV (.int i) (.int i t) from ⟨t, rfl⟩) (fun _ _ => .int i) rfl hd
theorem se_gstr {x z : Str} {pos : Pos} (hg : Gl s.X x) (hm : ∃ t, s.X.mg x = some (.str z t)) (hd : (x == ("__debug__" : Str)) = false := by decide) : SE s (.Name x pos) (mK (.str z)) := by
  obtain ⟨t, hm⟩ := hm
  exact se_glob hg hm (show RelV (.str z) (.str z t) from ⟨t, rfl⟩) (fun _ _ => .str z) rfl hd
end
/-- a def's function object -/
abbrev Df (G : Gd) (x : Str) (st : Stmt) : Prop := ∃ fd, FunD G.K x x (defArgs st) (defBody st) (defScope st) [] [] (He.ga G.K x) fd
theorem Df.kp {G : Gd} {x : Str} {st : Stmt} (h : Df G x st) : PySem.W.keepIn G.K (.ref (He.ga G.K x)) = true := by
  obtain ⟨fd, F⟩ := h
  exact F.kp
/-- a comprehension's block, by one run -/
def blkB (N : List Str) (sc scope : Scope) (own : List (Str × Nat)) : Bool :=
  decide (scope.kind = .function) && (scope.names.all (fun y => decide (scope.names.lookup y.1 = some y.2)) && (own.all (fun p => decide (N[p.2]? = some p.1)) &&
    (scope.names.all (fun y => decide (y.2 = .free → sc.names.lookup y.1 = some .cell ∨ sc.names.lookup y.1 = some .free)) &&
      scope.names.all (fun y => decide (y.2 = .local ∨ y.2 = .cell → y.1 ∈ own.map (·.1) ∨ y.1 ∉ N)))))
theorem blk_ok {N : List Str} {sc scope : Scope} {own : List (Str × Nat)} (h : blkB N sc scope own = true) : BlkOk N sc scope own := by
  simp only [blkB, Bool.and_eq_true, List.all_eq_true, decide_eq_true_eq] at h
  exact ⟨h.1, h.2.1, h.2.2.1, h.2.2.2.1, h.2.2.2.2⟩
end Dv

set_option maxHeartbeats 4000000
namespace Dv
open PySem PySem.Spec PyProof.Rows L2
section
variable {P : Program} {w : World} {A : Around} {E : Value → Shared → Prop} {s : Shared}
theorem call_set_lstR {l : Addr} {items : Array Value} (ns : List Int) {Q : Value → Shared → Prop} (hh : A.handled = none) (hl : s.heap.IsList l items) (hit : IntsAre items.toList ns) (hb : ns.length + 1 < scanBound)
    (h : ∀ (h' : Heap) (tk c : Nat), SetR w h' s.heap.objs.size (fun j => decide (j ∈ ns)) c → c ≤ ns.length → (∀ b o, s.heap.get? b = some o → h'.get? b = some o) → Q (.ref s.heap.objs.size) { s with heap := h', toks := tk }) :
    wpAny (model P w) A (call (.type "set") [.ref l]) Q E s := by
  have hisz : items.size = ns.length := by
    have q := IntsAre.length hit
    rw [Array.length_toList] at q
    exact q
  obtain ⟨c, tl, hmro⟩ := F.called_set.mro
  have hmade := F.called_set.made
  have hsub := F.called_set.sub
  refine wpAny_call (codeAny_of_tree ?_)
  show wpAny _ _ (callAny (.type "set") _) _ _ _
  refine wpAny_pure ⟨Code.quiet_builtin _ (by decide +kernel), codeAny_builtin F.entry_type_call ?_⟩
  rw [Around.under_plain (weight_type_call_type "set" [.ref l] []) rfl]
  have h1 := F.called_set.notType
  have h2 := F.called_set.canCreate
  have hct := F.typeCall_set_1 (.ref l)
  repeat (any_goals (first | assumption | wp_step))

  refine codeAny_mono (code_set_led1 (.ref l) (E := E) (Q₁ := fun obj s₁ => obj = .ref s.heap.objs.size ∧ s₁ = { s with heap := s.heap.push { cls := .type "set", dict := none, data := .set #[] 0 (.fresh 0 0 (!w.params.followText "set-order")) } }) ⟨rfl, rfl⟩) fun r s₁ hr => ?_
  cases r with
  | error e => exact hr
  | ok fl =>
    cases fl with
    | ret obj =>
      obtain ⟨rfl, rfl⟩ := hr
      have hS : (s.heap.push { cls := .type "set", dict := none, data := .set #[] 0 (.fresh 0 0 (!w.params.followText "set-order")) }).get? s.heap.objs.size = some { cls := .type "set", dict := none, data := .set #[] 0 (.fresh 0 0 (!w.params.followText "set-order")) } := Heap.get?_push_size _ rfl
      have hT : Shared.TypeIs { s with heap := s.heap.push { cls := .type "set", dict := none, data := .set #[] 0 (.fresh 0 0 (!w.params.followText "set-order")) } } (.ref s.heap.objs.size) "set" := ⟨_, hS, rfl⟩
      have hli := F.called_set.init.lookup
      have hbi := F.called_set.init.bind (.ref s.heap.objs.size)
      repeat (any_goals (first | assumption | wp_step))

      refine codeAny_mono (codeAny_call_builtin (R := wants (fun r s₂ => r = .none ∧ ∃ h' tk c, s₂ = { s with heap := h', toks := tk } ∧ SetR w h' s.heap.objs.size (fun j => decide (j ∈ ns)) c ∧ c ≤ ns.length ∧
          (∀ b o, s.heap.get? b = some o → h'.get? b = some o)) E) F.called_set.init.plain F.entry_set_init (check_set_init_1 hT ?_)) fun r₂ s₂ hr₂ => ?_
      · obtain ⟨ol, hol, hcl, nl, hdl⟩ := hl
        obtain ⟨ocls, odict, odata, oslots⟩ := ol
        simp only at hcl hdl
        subst hcl; subst hdl
        have hol' : (s.heap.push { cls := .type "set", dict := none, data := .set #[] 0 (.fresh 0 0 (!w.params.followText "set-order")) }).get? l = some { cls := .type "list", dict := odict, data := .seq items nl, slots := oslots } := Heap.get?_push_of_some _ hol
        have hsls := F.sub_list_set
        have hslf := F.sub_list_frozenset
        have hne : (Value.type "list" == Value.type "dict") = false := by decide
        have hl1 : (s.heap.push { cls := .type "set", dict := none, data := .set #[] 0 (.fresh 0 0 (!w.params.followText "set-order")) }).IsList l items := ⟨_, hol', rfl, nl, rfl⟩
        unfold Builtin.«set.__init__» noKeywords Builtin.Frozenset.updateFrom
        generalize hPI : pyIter = PI
        wp_walk
        subst hPI

        refine wpAny_pyIter_list hl1 ?_
        refine wpAny_bind (wpAny_runValue ?_)
        have hlS : l < s.heap.objs.size := Heap.lt_size hol
        have hh3 : A.in1.in1.in1.handled = none := by simp [hh]
        have hz1 : (s.heap.push { cls := .type "set", dict := none, data := .set #[] 0 (.fresh 0 0 (!w.params.followText "set-order")) }).objs.size = s.heap.objs.size + 1 := Heap.size_push ..
        have hneI : l ≠ (s.heap.push { cls := .type "set", dict := none, data := .set #[] 0 (.fresh 0 0 (!w.params.followText "set-order")) }).objs.size := by
          rw [Heap.size_push]; exact Nat.ne_of_lt (Nat.lt_succ_of_lt hlS)
        have hSf : s.heap.objs.size ∉ [(s.heap.push { cls := .type "set", dict := none, data := .set #[] 0 (.fresh 0 0 (!w.params.followText "set-order")) }).objs.size, l] := by
          rw [Heap.size_push]; simp only [List.mem_cons, List.mem_singleton, List.not_mem_nil, or_false, not_or]
          exact ⟨Nat.ne_of_lt (Nat.lt_succ_self _), Nat.ne_of_gt hlS⟩
        have hval : ∀ (i : Nat) (v : Value), items[i]? = some v → ∃ k t, ns[i]? = some k ∧ v = .int k t := fun i v hv => by
          have hi : i < ns.length := by rw [← hisz]; exact (Array.getElem?_eq_some_iff.mp hv).1
          obtain ⟨t, e⟩ := PyProof.Rows.IntsAre.int_at hit i v (by rw [Array.getElem?_toList]; exact hv)
          refine ⟨ns[i], t, List.getElem?_eq_getElem hi, ?_⟩
          rw [e, List.getD_eq_getElem?_getD, List.getElem?_eq_getElem hi] <;> rfl
        refine set_update_ints ((Walks.list hh3 _ l hneI items).toS) s.heap.objs.size
          hSf ns hisz hb hval (items.size - 0) 0 _ (by omega) (Nat.zero_le _)
          ⟨⟨_, Heap.get?_push_size _ rfl, rfl, rfl⟩, (hl1.push _)⟩ ?hS0 ?hR
        case hS0 =>
          have hget : ((s.heap.push { cls := .type "set", dict := none, data := .set #[] 0 (.fresh 0 0 (!w.params.followText "set-order")) }).push { cls := .type "list_iterator", data := .fields #[.ref l, .int 0 0] }).get? s.heap.objs.size
              = some { cls := .type "set", dict := none, data := .set #[] 0 (.fresh 0 0 (!w.params.followText "set-order")) } := Heap.get?_push_of_some _ hS
          exact ⟨0, Nat.le_refl 0, setR_new_at hget⟩
        case hR =>
          intro s' c' hm hc' hS'
          obtain ⟨h', g2, d', tk', os'⟩ := s'
          have eg : g2 = s.gens := hm.gens
          have ed : d' = s.drawn := hm.drawn
          have eo : os' = s.os := hm.os
          subst eg; subst ed; subst eo
          show wpAny _ _ _ _ _ _
          refine wpAny_pure ?_
          show wpAny _ _ (ret Value.none) _ _ _
          rw [hisz] at hc'
          refine wpAny_pure ⟨rfl, h', tk', c', rfl, hS', hc', fun b o e => ?_⟩
          have hb0 : b < s.heap.objs.size := Heap.lt_size e
          have hb1 : b ≠ s.heap.objs.size := Nat.ne_of_lt hb0
          have hb2 : b ≠ (s.heap.push { cls := .type "set", dict := none, data := .set #[] 0 (.fresh 0 0 (!w.params.followText "set-order")) }).objs.size := by
            rw [Heap.size_push]; exact Nat.ne_of_lt (Nat.lt_succ_of_lt hb0)
          exact hm.heap b o (by simp only [List.mem_cons, List.mem_singleton, List.not_mem_nil, or_false, not_or]; exact ⟨hb1, hb2⟩) (Heap.get?_push_of_some _ (Heap.get?_push_of_some _ e))

      · cases r₂ with
        | error e => exact hr₂
        | ok fl₂ =>
          cases fl₂ with
          | ret r =>
            obtain ⟨rfl, h', tk, c', rfl, hS', hc', hk'⟩ := hr₂
            repeat (any_goals (first | assumption | wp_step))
            exact h _ _ _ hS' hc' hk'
          | _ => exact hr₂.elim
    | _ => exact hr.elim

end
end Dv

set_option maxHeartbeats 4000000
namespace Dv
open PySem PySem.Spec PyProof.Rows L2
set_option autoImplicit false
/-! ### sorted(set(x)), x a list or a tuple -/
def tSortSet2 (K : PySem.W.Frag) (ta : TE) : TE := fun σ H Q => ta σ H fun x H1 => ∃ (l : Addr) (ns : List Int), x = V.ref l ∧ (SqT K H1 l (ns.map V.int) ∨ SqL K H1 l (ns.map V.int)) ∧ ns.length ≤ 1000 ∧ (usort ns).length < 64 ∧ ∀ p, H1 p = none → Q (.ref p) (upd H1 p (.lst ((usort ns).map V.int)))
theorem pe_sortSet2 {X : Cx} {a : Expr} {ta : TE} {p p2 q pos : Pos} (hc : X.calm = true) (hg : Gl X "sorted") (hm : X.mg "sorted" = none) (hg2 : Gl X "set") (hm2 : X.mg "set" = none) (ha : PE X a ta)
    (na : starEach [a] X.env = (false, eval a X.env) :: starEach [] X.env := by rfl) : PE X (.Call (.Name "sorted" p) [.Call (.Name "set" p2) [a] [] q] [] pos) (tSortSet2 X.K ta) := by
  refine ⟨fun pins s σ H Q I h => ?_⟩
  refine Call_ (ld_blt I hg hm PyProof.Rows.boot_sorted ?_)
  refine PyProof.Rows.callWith_builtin1 (PyProof.Rows.args_cons ?_ rfl) rfl rfl
  refine Call_ (ld_blt I hg2 hm2 PyProof.Rows.boot_set ?_)
  refine PyProof.Rows.callWith_type1 (PyProof.Rows.args_cons (thn (ha.run pins s σ H _ I h) fun v s1 ⟨x, H1, I1, r1, q1⟩ => PyProof.Rows.args_nil ?_) na) na rfl
  obtain ⟨l, ns, rfl, hq, h1, h64, q1⟩ := q1
  cases r1
  rcases hq with hq | hq
  · obtain ⟨its, rv, pt, hz⟩ := I1.tuple hq
    refine call_set_tupI ns (I1.ok.hd hc) (show s1.heap.IsTuple l its.toArray from pt) (ints_of_vals rv) (by unfold scanBound; omega) fun h' tk c R hcn k => ?_
    refine PyProof.Rows.args_nil ?_
    have I2 : Inv X pins σ H1 { s1 with heap := h', toks := tk } := I1.kept k
    have hc64 : c < 64 := by
      obtain ⟨o, es, ep, t, ho, hex, hd, g, nd, hmem, hb, hf, hn, hr, hl⟩ := R
      have pm : (es.toList.map keyOf).Perm (usort ns) := (List.perm_ext_iff_of_nodup nd (asc_nodup (pw_usort ns))).mpr fun j => by
        rw [← hmem j, mem_usort]; simp
      have := pm.length_eq
      rw [List.length_map, Array.length_toList] at this
      omega
    exact sorted_at hc I2 R hc64 (fun k => by simp) q1
  · obtain ⟨its, rv, pt, hz⟩ := I1.list hq
    refine call_set_lstR ns (I1.ok.hd hc) pt.isList (ints_of_vals rv) (by unfold scanBound; omega) fun h' tk c R hcn k => ?_
    refine PyProof.Rows.args_nil ?_
    have I2 : Inv X pins σ H1 { s1 with heap := h', toks := tk } := I1.kept k
    have hc64 : c < 64 := by
      obtain ⟨o, es, ep, t, ho, hex, hd, g, nd, hmem, hb, hf, hn, hr, hl⟩ := R
      have pm : (es.toList.map keyOf).Perm (usort ns) := (List.perm_ext_iff_of_nodup nd (asc_nodup (pw_usort ns))).mpr fun j => by
        rw [← hmem j, mem_usort]; simp
      have := pm.length_eq
      rw [List.length_map, Array.length_toList] at this
      omega
    exact sorted_at hc I2 R hc64 (fun k => by simp) q1
/-- the items of a list or a tuple -/
def sqOf : D → Option (List D)
  | .tup xs => some xs
  | d => lstOf d
def mSortSet (m : ME) : ME := fun ρ S => (m ρ S).bind fun d S1 => match (sqOf (vw S1 d)).bind intsOf with
  | some ns => if decide (ns.length ≤ 1000) && decide ((usort ns).length < 64) then .ok (.lst true ((usort ns).map .int)) S1 else .bad
  | none => .bad
section
variable {s : Sit}
theorem Seen.sq {K : PySem.W.Frag} {H : Hp} {O : Ow} {v : V} {d : D} {ds : List D} (r : Seen K H O v d) (e : sqOf d = some ds) : ∃ a xs, v = .ref a ∧ (SqT K H a xs ∨ SqL K H a xs) ∧ RpAll K H O xs ds := by
  unfold sqOf at e
  split at e
  · cases e
    obtain ⟨a, xs, h1, h2, h3⟩ := r.tup
    exact ⟨a, xs, h1, .inl h2, h3⟩
  · obtain ⟨a, xs, h1, h2, h3⟩ := r.list e
    exact ⟨a, xs, h1, .inr h2, h3⟩
theorem se_sortSet {a : Expr} {m : ME} {p p2 q pos : Pos} (hc : s.X.calm = true) (hg : Gl s.X "sorted") (hm : s.X.mg "sorted" = none) (hg2 : Gl s.X "set") (hm2 : s.X.mg "set" = none) (ha : SE s a m)
    (na : starEach [a] s.X.env = (false, eval a s.X.env) :: starEach [] s.X.env := by rfl) : SE s (.Call (.Name "sorted" p) [.Call (.Name "set" p2) [a] [] q] [] pos) (mSortSet m) := by
  refine PE.weak (pe_sortSet2 hc hg hm hg2 hm2 ha na) fun σ H Q q => ?_
  obtain ⟨ρ, S, A, c, q⟩ := q
  refine tD_bind c q fun d S1 v H1 _ p1 c1 r1 _ q1 => ?_
  have q2 := q1.on c.cells p1
  split at q2
  · rename_i ns hi
    split at q2
    · rename_i hp
      simp only [Bool.and_eq_true, decide_eq_true_eq] at hp
      rw [Option.bind_eq_some_iff] at hi
      obtain ⟨ys, e, hi⟩ := hi
      have nn : ∀ k fs, vw S1 d ≠ .err k fs := fun k fs z => by rw [z] at e; cases e
      obtain ⟨a, xs, rfl, h3, h4⟩ := (r1.seen c1.cells nn).sq e
      rw [intsOf_eq hi] at h4
      rw [h4.ints] at h3
      exact ⟨a, ns, rfl, h3, hp.1, hp.2, new_lst c1.cells (rpAll_ints (usort ns)) (fin_opt (x := .lst true ((usort ns).map .int)) c1.cells q2)⟩
    · exact q2.elim
  · exact q2.elim
end
/-! ### max, min of a list of ints -/
def cMaxL (S : Store) (ds : List D) : Option D := (((listArg S ds).bind intsOf).bind List.max?).map .int
def cMinL (S : Store) (ds : List D) : Option D := (((listArg S ds).bind intsOf).bind List.min?).map .int
section
variable {s : Sit}
theorem sem_maxL : CallSem s cMaxL (rMax s.X.K) := by
  intro A S H vs ds x Q c r hf q
  simp only [cMaxL, Option.map_eq_some_iff, Option.bind_eq_some_iff] at hf
  obtain ⟨m, ⟨ns, ⟨xs, h1, h2⟩, hm⟩, rfl⟩ := hf
  obtain ⟨a, ys, rfl, h3, h4⟩ := listArg_ok c r h1
  rw [intsOf_eq h2] at h4
  rw [h4.ints] at h3
  have hm' := List.max?_eq_some_iff.mp hm
  refine ⟨a, ns, rfl, h3, List.length_pos_of_mem hm'.1, fun k k1 k2 => ?_⟩
  have e : k = m := Int.le_antisymm (hm'.2 k k1) (k2 m hm'.1)
  subst e
  exact old_of (.int _) rfl q
theorem sem_minL : CallSem s cMinL (rMin s.X.K) := by
  intro A S H vs ds x Q c r hf q
  simp only [cMinL, Option.map_eq_some_iff, Option.bind_eq_some_iff] at hf
  obtain ⟨m, ⟨ns, ⟨xs, h1, h2⟩, hm⟩, rfl⟩ := hf
  obtain ⟨a, ys, rfl, h3, h4⟩ := listArg_ok c r h1
  rw [intsOf_eq h2] at h4
  rw [h4.ints] at h3
  have hm' := List.min?_eq_some_iff.mp hm
  refine ⟨a, ns, rfl, h3, List.length_pos_of_mem hm'.1, fun k k1 k2 => ?_⟩
  have e : k = m := Int.le_antisymm (k2 m hm'.1) (hm'.2 k k1)
  subst e
  exact old_of (.int _) rfl q
end
/-! ### sorted, min of a list of data -/
def pyD (d : D) : PyData := (toPy d).getD .none
/-- data that can be sorted -/
def SortOk (xs : List D) : Prop := (∀ d ∈ xs, (toPy d).isSome) ∧ PySem.W.AllAlike (xs.map pyD) ∧ PySem.W.Sortable (xs.map pyD) ∧ ∀ d ∈ xs, SeqAt.shaped (pyD d) = true ∧ (pyD d).depth ≤ 60
def leD : D → D → Bool := PySem.W.dataLe false pyD
open Classical in
noncomputable def cSortD (S : Store) (ds : List D) : Option D := (listArg S ds).bind fun xs => if SortOk xs then some (.lst true (xs.mergeSort leD)) else none
def rSortedD (K : PySem.W.Frag) : List V → Hp → VK → Prop := fun vs H Q => ∃ (a : Addr) (bs : List (V × D)), vs = [V.ref a] ∧ SqL K H a (bs.map (·.1)) ∧ (∀ b ∈ bs, Dp K H b.1 (pyD b.2)) ∧ SortOk (bs.map (·.2)) ∧
  ∀ p, H p = none → Q (.ref p) (upd H p (.lst ((bs.mergeSort fun x y => leD x.2 y.2).map (·.1))))
theorem cr_sortedD {X : Cx} (hu : X.A.units + 65 < cLine) : CallR X (.builtin "sorted") (rSortedD X.K) := by
  intro pins s σ H vs us Q I r h
  obtain ⟨a, bs, rfl, hs, hd, ⟨_, hal, hsr, hsh⟩, q⟩ := h
  obtain ⟨its, rv, hl, hz⟩ := I.list hs
  rw [Vals.ref1 r]
  have each : ∀ {us : List Value} {cs : List (V × D)}, Vals (cs.map (·.1)) us → PySem.W.EachIs (fun u (b : V × D) => RelV b.1 u) us cs := by
    intro us cs h
    induction cs generalizing us with
    | nil => cases h; exact .nil
    | cons c cs ih => cases h with | cons h1 h2 => exact .cons h1 (ih h2)
  have back : ∀ {us : List Value} {cs : List (V × D)}, PySem.W.EachIs (fun u (b : V × D) => RelV b.1 u) us cs → Vals (cs.map (·.1)) us := by
    intro us cs h
    induction h with
    | nil => exact .nil
    | cons h1 _ ih => exact .cons h1 ih
  have e := each rv
  have er : PySem.W.EachIs (fun v (b : V × D) => ∃ as, Reads s.heap v (pyD b.2) as) its bs := (PySem.W.each_mem e).mono fun v b ⟨h1, h2⟩ => Dp.reads I _ _ _ (hd b h2) h1
  rw [List.map_map] at hal hsr
  refine PySem.W.sorted_data (enc := fun b : V × D => pyD b.2) hl.isList e er hal hsr (by rw [List.length_map] at hz; exact hz) (fun b hb => ?_) fun out hlen ho => ?_
  · have := (hsh b.2 (List.mem_map.mpr ⟨b, hb, rfl⟩)).2
    omega
  · obtain ⟨ep, he'⟩ := PyProof.Rows.sortedAll_at s.heap its out.toArray
    have hlen2 : ((bs.mergeSort fun x y => leD x.2 y.2).map (·.1)).length ≤ sizeLine := by
      rw [List.length_map, List.length_mergeSort]
      rw [List.length_map] at hz
      exact hz
    exact ⟨.ref _, upd H (s.heap.objs.size + 1) (.lst ((bs.mergeSort fun x y => leD x.2 y.2).map (·.1))), I.laid (t' := s.toks) (fun _ _ => PyProof.Rows.sortedAll_old) (Nat.le_succ _) ⟨hlen2, out, ep, back ho, he'⟩, rfl, q _ (I.hok.fresh (Nat.le_succ _))⟩
theorem zip_fst {α β : Type} : ∀ {xs : List α} {ys : List β}, xs.length = ys.length → (xs.zip ys).map (·.1) = xs
  | [], [], _ => rfl
  | _ :: xs, _ :: ys, h => by simp [zip_fst (xs := xs) (ys := ys) (by simpa using h)]
theorem zip_snd {α β : Type} : ∀ {xs : List α} {ys : List β}, xs.length = ys.length → (xs.zip ys).map (·.2) = ys
  | [], [], _ => rfl
  | _ :: xs, _ :: ys, h => by simp [zip_snd (xs := xs) (ys := ys) (by simpa using h)]
theorem RpAll.zip {K : PySem.W.Frag} {H : Hp} {O : Ow} : ∀ {vs : List V} {ds : List D}, RpAll K H O vs ds → ∀ b ∈ vs.zip ds, Rp K H O b.1 b.2
  | _, _, .nil, b, h => by simp at h
  | _, _, .cons r rs, b, h => by
    rw [List.zip_cons_cons, List.mem_cons] at h
    rcases h with rfl | h
    · exact r
    · exact RpAll.zip rs b h
theorem RpAll.unzip {K : PySem.W.Frag} {H : Hp} {O : Ow} : ∀ {bs : List (V × D)}, (∀ b ∈ bs, Rp K H O b.1 b.2) → RpAll K H O (bs.map (·.1)) (bs.map (·.2))
  | [], _ => .nil
  | b :: bs, h => .cons (h b List.mem_cons_self) (RpAll.unzip fun c hc => h c (List.mem_cons_of_mem _ hc))
section
variable {s : Sit}
theorem sem_sortD : CallSem s cSortD (rSortedD s.X.K) := by
  intro A S H vs ds x Q c r hf q
  simp only [cSortD, Option.bind_eq_some_iff] at hf
  obtain ⟨xs, h1, hf⟩ := hf
  split at hf
  case isFalse => cases hf
  rename_i ok
  cases hf
  obtain ⟨a, ys, rfl, h3, h4⟩ := listArg_ok c r h1
  have hl := h4.length
  refine ⟨a, ys.zip xs, rfl, by rw [zip_fst hl]; exact h3, fun b hb => ?_, by rw [zip_snd hl]; exact ok, ?_⟩
  · have hm : b.2 ∈ xs := (List.of_mem_zip hb).2
    refine (h4.zip b hb).dp ?_
    have := ok.1 b.2 hm
    obtain ⟨p, hp⟩ := Option.isSome_iff_exists.mp this
    rw [pyD, hp] <;> rfl
  · have e : xs.mergeSort leD = (((ys.zip xs).mergeSort fun x y => leD x.2 y.2).map (·.2)) := by
      rw [List.map_mergeSort (s := leD) (fun _ _ _ _ => rfl), zip_snd hl]
    rw [e] at q
    exact new_lst c (RpAll.unzip fun b hb => h4.zip b (List.mem_mergeSort.mp hb)) q
end
/-! min -/
mutual
def noLst : PyData → Bool
  | .list _ => false
  | .dict _ => false
  | .tuple xs => noLstL xs
  | _ => true
def noLstL : List PyData → Bool
  | [] => true
  | x :: xs => noLst x && noLstL xs
end
mutual
def fromPy : PyData → D
  | .none => .non
  | .bool b => .bl b
  | .int i => .int i
  | .str x => .str x
  | .tuple xs => .tup (fromPyL xs)
  | .list xs => .lst true (fromPyL xs)
  | .dict _ => .non
def fromPyL : List PyData → List D
  | [] => []
  | x :: xs => fromPy x :: fromPyL xs
end
mutual
theorem fromPy_eq : ∀ {d : D} {p : PyData}, toPy d = some p → noLst p = true → d = fromPy p
  | .non, _, h, _ => by simp only [toPy] at h; cases h; rfl
  | .bl _, _, h, _ => by simp only [toPy] at h; cases h; rfl
  | .int _, _, h, _ => by simp only [toPy] at h; cases h; rfl
  | .str _, _, h, _ => by simp only [toPy] at h; cases h; rfl
  | .tup xs, p, h, n => by
    simp only [toPy, Option.map_eq_some_iff] at h
    obtain ⟨ys, h1, rfl⟩ := h
    simp only [noLst] at n
    rw [fromPy, ← fromPyL_eq h1 n]
  | .lst _ xs, p, h, n => by
    simp only [toPy, Option.map_eq_some_iff] at h
    obtain ⟨ys, h1, rfl⟩ := h
    simp [noLst] at n
  | .rol xs, p, h, n => by
    simp only [toPy, Option.map_eq_some_iff] at h
    obtain ⟨ys, h1, rfl⟩ := h
    simp [noLst] at n
  | .ty _, _, h, _ => by simp [toPy] at h
  | .adr _, _, h, _ => by simp [toPy] at h
  | .loc _, _, h, _ => by simp [toPy] at h
  | .err _ _, _, h, _ => by simp [toPy] at h
  | .dct _ _, _, h, _ => by simp [toPy] at h
theorem fromPyL_eq : ∀ {ds : List D} {ps : List PyData}, toPyL ds = some ps → noLstL ps = true → ds = fromPyL ps
  | [], _, h, _ => by simp only [toPyL] at h; cases h; rfl
  | x :: xs, ps, h, n => by
    simp only [toPyL] at h
    split at h
    · rename_i y ys h1 h2
      cases h
      simp only [noLstL, Bool.and_eq_true] at n
      rw [fromPyL, ← fromPy_eq h1 n.1, ← fromPyL_eq h2 n.2]
    · cases h
end
end Dv

set_option maxHeartbeats 4000000
namespace Dv
open PySem PySem.Spec PyProof.Rows L2
set_option autoImplicit false
/-! ### o.m(..), o a list that stays as it is -/
def MetSem (s : Sit) (f : Store → List D → Option D) (r : V → List V → Hp → VK → Prop) : Prop :=
  ∀ (A : Wy) (S : Store) (H : Hp) (v : V) (d : D) (vs : List V) (ds : List D) (x : D) (Q : VK), Cells s.X.K A S H → RpS s.X.K s.Z A S H v d → (lstOf (vw S d)).isSome → RpL s.X.K s.Z A S H vs ds → f S (d :: ds) = some x →
    (∀ z H', Same H H' → RpS s.X.K s.Z A S H' z x → Fresh s.X.K A S H H' z x → Q z H') → r v vs H Q
def mMet (f : Store → List D → Option D) (o : ME) (a : MA) : ME := fun ρ S => (o ρ S).bind fun d S1 => if (lstOf (vw S1 d)).isSome then (a ρ S1).bind fun ds S2 => if (lstOf (vw S2 d)).isSome then opt (f S2 (d :: ds)) S2 else .bad else .bad
section
variable {s : Sit}
theorem met_red {f : Store → List D → Option D} {r : V → List V → Hp → VK → Prop} (sem : MetSem s f r) {o : ME} {a : MA} {σ : L2.St} {H : Hp} {Q : VK} (q : tD s (mMet f o a) σ H Q) : tBM s.X.K "list" r (tD s o) (tDa s a) σ H Q := by
  obtain ⟨ρ, S, A, c, q⟩ := q
  refine tD_bind c q fun d S1 v H1 em p1 c1 r1 f1 q1 => ?_
  split at q1
  case isFalse => exact q1.elim
  rename_i hl
  obtain ⟨ds0, hl⟩ := Option.isSome_iff_exists.mp hl
  have nn : ∀ k fs, vw S1 d ≠ .err k fs := fun k fs z => by rw [z] at hl; cases hl
  obtain ⟨a', xs, rfl, h3, h4⟩ := (r1.seen c1.cells nn).list hl
  refine ⟨.inl ⟨rfl, _, h3⟩, tDa_bind c1 (q1.on c.cells p1) fun args S2 vs H2 _ p2 c2 r2 q2 => ?_⟩
  split at q2
  case isFalse => exact q2.elim
  rename_i hl2
  cases hf : f S2 (d :: args) with
  | none => rw [hf] at q2; exact q2.elim
  | some x =>
    rw [hf] at q2
    exact sem A S2 H2 _ d vs args x Q c2.cells (r1.step c1.cells p2) hl2 r2 hf (fin_opt c2.cells q2)
variable {o e : Expr} {es : List Expr} {mo : ME} {ma : MA} {name : Str} {apos cpos : Pos} {id : String} {r : V → List V → Hp → VK → Prop} {f : Store → List D → Option D}
theorem se_met (slot : Slot "list" name id) (hty : typeOf (.builtin id) = pure (.type "method_descriptor")) (hm : MtR s.X id r) (sem : MetSem s f r) (ho : SE s o mo) (ha : SA s (e :: es) ma)
    (hbase : attributeBase o name s.X.env (eval o s.X.env) = eval o s.X.env := by rfl)
    (hfew : ((backTo cpos (starEach (e :: es) s.X.env)).all (fun x => !x.1) && (backToKw cpos (keywordEach [] s.X.env)).all (fun x => x.1.isSome)
      && decide ((e :: es).length + ([] : List Keyword).length + (if ([] : List Keyword).isEmpty then 0 else 1) < 30)) = true := by rfl)
    (hline : (apos.endLine == cpos.line) = true := by rfl) (hs : starEach (e :: es) s.X.env = (false, eval e s.X.env) :: starEach es s.X.env := by rfl) (hplain : (backTo cpos (starEach es s.X.env)).any (·.1) = false := by rfl) :
    SE s (.Call (.Attribute o name apos) (e :: es) [] cpos) (mMet f mo ma) :=
  PE.weak (pe_bm PySem.F.plainAttrs_list slot hty hm ho ha hbase hfew hline hs hplain) fun _ _ _ q => met_red sem q
end
def cIndex (S : Store) (ds : List D) : Option D := match ds with
  | [d, e] => match pyOf S d, pyOf S e with
    | some (.list ps), some p => (ps.findIdx? fun z => PyData.eqv z p).map fun i => .int (i : Nat)
    | _, _ => none
  | _ => none
section
variable {s : Sit}
theorem sem_index : MetSem s cIndex (rIndexD s.X.K) := by
  intro A S H v d vs ds x Q c r hl rl hf q
  unfold cIndex at hf
  split at hf
  case h_2 => cases hf
  rename_i d' e he
  cases he
  split at hf
  case h_2 => cases hf
  rename_i ps p h1 h2
  rw [Option.map_eq_some_iff] at hf
  obtain ⟨i, hi, rfl⟩ := hf
  obtain ⟨y, rfl, ry⟩ := rl.one
  obtain ⟨a1, a2⟩ := pyOf_dp c r h1
  obtain ⟨b1, b2⟩ := pyOf_dp c ry h2
  obtain ⟨hlt, hp, hno⟩ := List.findIdx?_eq_some_iff_getElem.mp hi
  have hv : ∃ a, v = .ref a := by cases a1; exact ⟨_, rfl⟩
  obtain ⟨a, rfl⟩ := hv
  refine ⟨a, y, p, ps, i, ps[i], rfl, rfl, a1, b1, a2, b2, List.getElem?_eq_getElem hlt, hp, fun m z' hm hz => ?_, old_of (.int _) rfl q⟩
  have hml : m < ps.length := by omega
  rw [List.getElem?_eq_getElem hml] at hz
  cases hz
  simpa using hno m hm
end
/-! ### min, max of a list of data -/
/-- data of which the least is asked -/
def BestOk (xs : List D) : Prop := SortOk xs ∧ (∀ d ∈ xs, noLst (pyD d) = true) ∧ PyData.depthAll (xs.map pyD) ≤ 60
open Classical in
noncomputable def cMinD (S : Store) (ds : List D) : Option D := (listArg S ds).bind fun xs => match xs with
  | [] => none
  | y :: ys => if BestOk (y :: ys) then some (fromPy (PySem.W.minD (pyD y) (ys.map pyD))) else none
open Classical in
noncomputable def cMaxD (S : Store) (ds : List D) : Option D := (listArg S ds).bind fun xs => match xs with
  | [] => none
  | y :: ys => if BestOk (y :: ys) then some (fromPy (PySem.W.maxD (pyD y) (ys.map pyD))) else none
def rBestD (g : PyData → List PyData → PyData) (K : PySem.W.Frag) : List V → Hp → VK → Prop := fun vs H Q => ∃ (a : Addr) (bs : List (V × D)) (y : D) (ys : List D), vs = [V.ref a] ∧ SqL K H a (bs.map (·.1)) ∧ (∀ b ∈ bs, Dp K H b.1 (pyD b.2)) ∧ bs.map (·.2) = y :: ys ∧ BestOk (y :: ys) ∧
  ∀ b ∈ bs, pyD b.2 = g (pyD y) (ys.map pyD) → Q b.1 H
theorem pyD_some {d : D} (h : (toPy d).isSome) : toPy d = some (pyD d) := by
  obtain ⟨p, hp⟩ := Option.isSome_iff_exists.mp h
  rw [pyD, hp] <;> rfl
theorem best_each {X : Cx} {pins : List (Addr × Obj)} {s : Shared} {σ : L2.St} {H : Hp} (I : L2.Inv X pins σ H s) : ∀ {us : List Value} {bs : List (V × D)}, Vals (bs.map (·.1)) us → (∀ b ∈ bs, Dp X.K H b.1 (pyD b.2)) → ∃ as, ReadsAll s.heap us (bs.map fun b => pyD b.2) as
  | _, [], h, _ => by cases h; exact ⟨_, .nil⟩
  | _, b :: bs, h, hd => by
    cases h with
    | cons h1 h2 =>
      obtain ⟨as, q1⟩ := Dp.reads I _ _ _ (hd b List.mem_cons_self) h1
      obtain ⟨cs, q2⟩ := best_each I h2 fun c hc => hd c (List.mem_cons_of_mem _ hc)
      exact ⟨_, .cons q1 q2⟩
section
variable {X : Cx}
theorem best_fin {pins : List (Addr × Obj)} {s : Shared} {σ : L2.St} {H : Hp} {Q : VK} (I : L2.Inv X pins σ H s) {us : List Value} {bs : List (V × D)} {p : PyData} (rv : Vals (bs.map (·.1)) us) (hd : ∀ b ∈ bs, Dp X.K H b.1 (pyD b.2)) (hsh : ∀ b ∈ bs, SeqAt.shaped (pyD b.2) = true)
    {i : Nat} {v : Value} {h' : Heap} {tk : Nat} {cs : List Addr} (hv : us.toArray[i]? = some v) (hr : Reads h' v p cs) (hk : ∀ b o, s.heap.get? b = some o → h'.get? b = some o) (hp : p.canLay0 = true)
    (q : ∀ b ∈ bs, pyD b.2 = p → Q b.1 H) : EP X pins σ Q v { s with heap := h', toks := tk } := by
  have hv' : us[i]? = some v := by simpa using hv
  have hi : i < bs.length := by
    have := rv.length
    rw [List.length_map] at this
    rw [this]
    exact (List.getElem?_eq_some_iff.mp hv').1
  obtain ⟨w, hw, rw'⟩ := rv.get (i := i) (x := bs[i].1) (by rw [List.getElem?_map, List.getElem?_eq_getElem hi] <;> rfl)
  rw [hw] at hv'
  cases hv'
  have hm : bs[i] ∈ bs := List.getElem_mem hi
  obtain ⟨as, r1⟩ := Dp.reads I _ _ _ (hd _ hm) rw'
  have r2 : Reads h' v (pyD bs[i].2) as := PyProof.Rows.Reads.keeps hk r1
  have e : pyD bs[i].2 = p := (SeqAt.readOf_eq (SeqAt.canLay_of_shaped (hsh _ hm)) r2).symm.trans (SeqAt.readOf_eq hp hr)
  exact ⟨_, H, I.kept hk, rw', q _ hm e⟩
theorem best_mem {f : PyData → PyData → Bool} : ∀ {x : PyData} {xs : List PyData}, xs.foldl (fun a y => if f y a then y else a) x ∈ x :: xs
  | x, [] => List.mem_cons_self
  | x, y :: xs => by
    rw [List.foldl_cons]
    have := best_mem (f := f) (x := if f y x then y else x) (xs := xs)
    rcases List.mem_cons.mp this with e | e
    · rw [e]
      split
      · exact List.mem_cons_of_mem _ List.mem_cons_self
      · exact List.mem_cons_self
    · exact List.mem_cons_of_mem _ (List.mem_cons_of_mem _ e)
theorem best_mem' {f : PyData → PyData → Bool} : ∀ {x : PyData} {xs : List PyData}, xs.foldl (fun a y => if f a y then y else a) x ∈ x :: xs := best_mem (f := fun y a => f a y)
theorem alike_of {xs : List PyData} (h : PySem.W.AllAlike xs) (hs : PySem.W.Sortable xs) : PySem.W.AlikeAll xs := ⟨h, fun x hx => by
  rcases hs with hs | hs
  · obtain ⟨y, r, e⟩ := hs x hx
    rw [e]; exact fun z => nomatch z
  · exact (hs x hx).1⟩
theorem cr_minD (hc : X.calm = true) (hu : X.A.units + 65 < cLine) : CallR X (.builtin "min") (rBestD PySem.W.minD X.K) := by
  intro pins s σ H vs us Q I r h
  obtain ⟨a, bs, y, ys, rfl, hs, hd, e, ⟨⟨_, hal, hsr, hsh⟩, _, hdp⟩, q⟩ := h
  obtain ⟨its, rv, hl, hz⟩ := I.list hs
  rw [Vals.ref1 r]
  have e2 : (bs.map fun b => pyD b.2) = pyD y :: ys.map pyD := by rw [← List.map_cons, ← e, List.map_map] <;> rfl
  obtain ⟨as, ra⟩ := best_each I rv hd
  rw [e2] at ra
  have hsh' : ∀ b ∈ bs, SeqAt.shaped (pyD b.2) = true := fun b hb => (hsh b.2 (by rw [← e]; exact List.mem_map.mpr ⟨b, hb, rfl⟩)).1
  rw [List.map_cons] at hal hdp hsr
  have hal := alike_of hal hsr
  refine PySem.W.min_list_data (I.ok.hd hc) hl.isList (by simpa using ra) hal (by omega) fun i v h' tk cs hv hr hk => best_fin I rv hd hsh' hv hr hk ?_ q
  have hm : PySem.W.minD (pyD y) (ys.map pyD) ∈ pyD y :: ys.map pyD := best_mem
  rw [← List.map_cons, List.mem_map] at hm
  obtain ⟨z, hz, ez⟩ := hm
  rw [← ez]
  exact SeqAt.canLay_of_shaped (hsh z hz).1
theorem cr_maxD (hc : X.calm = true) (hu : X.A.units + 65 < cLine) : CallR X (.builtin "max") (rBestD PySem.W.maxD X.K) := by
  intro pins s σ H vs us Q I r h
  obtain ⟨a, bs, y, ys, rfl, hs, hd, e, ⟨⟨_, hal, hsr, hsh⟩, _, hdp⟩, q⟩ := h
  obtain ⟨its, rv, hl, hz⟩ := I.list hs
  rw [Vals.ref1 r]
  have e2 : (bs.map fun b => pyD b.2) = pyD y :: ys.map pyD := by rw [← List.map_cons, ← e, List.map_map] <;> rfl
  obtain ⟨as, ra⟩ := best_each I rv hd
  rw [e2] at ra
  have hsh' : ∀ b ∈ bs, SeqAt.shaped (pyD b.2) = true := fun b hb => (hsh b.2 (by rw [← e]; exact List.mem_map.mpr ⟨b, hb, rfl⟩)).1
  rw [List.map_cons] at hal hdp hsr
  have hal := alike_of hal hsr
  refine PySem.W.max_list_data (I.ok.hd hc) hl.isList (by simpa using ra) hal (by omega) fun i v h' tk cs hv hr hk => best_fin I rv hd hsh' hv hr hk ?_ q
  have hm : PySem.W.maxD (pyD y) (ys.map pyD) ∈ pyD y :: ys.map pyD := best_mem'
  rw [← List.map_cons, List.mem_map] at hm
  obtain ⟨z, hz, ez⟩ := hm
  rw [← ez]
  exact SeqAt.canLay_of_shaped (hsh z hz).1
end
section
variable {s : Sit}
theorem best_sem {g : PyData → List PyData → PyData} {A : Wy} {S : Store} {H : Hp} {vs : List V} {ds : List D} {y : D} {ys : List D} {Q : VK} (c : Cells s.X.K A S H) (r : RpL s.X.K s.Z A S H vs ds) (h1 : listArg S ds = some (y :: ys)) (ok : BestOk (y :: ys))
    (q : ∀ z H', Same H H' → RpS s.X.K s.Z A S H' z (fromPy (g (pyD y) (ys.map pyD))) → Fresh s.X.K A S H H' z (fromPy (g (pyD y) (ys.map pyD))) → Q z H') : rBestD g s.X.K vs H Q := by
  obtain ⟨a, vs', rfl, h3, h4⟩ := listArg_ok c r h1
  have hl := h4.length
  refine ⟨a, vs'.zip (y :: ys), y, ys, rfl, by rw [zip_fst hl]; exact h3, fun b hb => (h4.zip b hb).dp (pyD_some (ok.1.1 b.2 (List.of_mem_zip hb).2)), zip_snd hl, ok, fun b hb e => ?_⟩
  have hm : b.2 ∈ y :: ys := (List.of_mem_zip hb).2
  have eb : b.2 = fromPy (g (pyD y) (ys.map pyD)) := by
    rw [← e]
    exact fromPy_eq (pyD_some (ok.1.1 b.2 hm)) (ok.2.1 b.2 hm)
  rw [← eb] at q
  have hn : isNew b.2 = false := by
    rw [eb, ← e]
    have hn := ok.2.1 b.2 hm
    cases hp : pyD b.2 <;> first | rfl | (rw [hp] at hn; simp [noLst] at hn)
  exact old_of (h4.zip b hb) hn q
theorem sem_minD : CallSem s cMinD (rBestD PySem.W.minD s.X.K) := by
  intro A S H vs ds x Q c r hf q
  simp only [cMinD, Option.bind_eq_some_iff] at hf
  obtain ⟨xs, h1, hf⟩ := hf
  split at hf
  · cases hf
  · split at hf
    case isFalse => cases hf
    rename_i ok
    cases hf
    exact best_sem c r h1 ok q
theorem sem_maxD : CallSem s cMaxD (rBestD PySem.W.maxD s.X.K) := by
  intro A S H vs ds x Q c r hf q
  simp only [cMaxD, Option.bind_eq_some_iff] at hf
  obtain ⟨xs, h1, hf⟩ := hf
  split at hf
  · cases hf
  · split at hf
    case isFalse => cases hf
    rename_i ok
    cases hf
    exact best_sem c r h1 ok q
end
end Dv

set_option maxHeartbeats 4000000
namespace Dv
open PySem PySem.Spec PyProof.Rows L2
set_option autoImplicit false
/-! ### ints, or data -/
noncomputable def byInts (f g : Store → List D → Option D) (S : Store) (ds : List D) : Option D := if ((listArg S ds).bind intsOf).isSome then f S ds else g S ds
noncomputable def cSort := byInts cSortI cSortD
noncomputable def cMin1 := byInts cMinL cMinD
noncomputable def cMax1 := byInts cMaxL cMaxD
theorem call_or {X : Cx} {id : String} {r r' : List V → Hp → VK → Prop} (h : CallR X (.builtin id) r) (h' : CallR X (.builtin id) r') : CallR X (.builtin id) (fun vs H Q => r vs H Q ∨ r' vs H Q) := by
  intro pins s σ H vs us Q I rv q
  rcases q with q | q
  · exact h pins s σ H vs us Q I rv q
  · exact h' pins s σ H vs us Q I rv q
section
variable {s : Sit}
theorem sem_or {f g : Store → List D → Option D} {r r' : List V → Hp → VK → Prop} (h : CallSem s f r) (h' : CallSem s g r') : CallSem s (byInts f g) (fun vs H Q => r vs H Q ∨ r' vs H Q) := by
  intro A S H vs ds x Q c rl hf q
  unfold byInts at hf
  split at hf
  · exact .inl (h A S H vs ds x Q c rl hf q)
  · exact .inr (h' A S H vs ds x Q c rl hf q)
theorem call_sort (hu : s.X.A.units + 65 < cLine) : CallR s.X (.builtin "sorted") (fun vs H Q => rSortedI s.X.K vs H Q ∨ rSortedD s.X.K vs H Q) := call_or cr_sortedI (cr_sortedD hu)
theorem sem_sort : CallSem s cSort (fun vs H Q => rSortedI s.X.K vs H Q ∨ rSortedD s.X.K vs H Q) := sem_or sem_sortI sem_sortD
theorem call_min1 (hc : s.X.calm = true) (hu : s.X.A.units + 65 < cLine) : CallR s.X (.builtin "min") (fun vs H Q => rMin s.X.K vs H Q ∨ rBestD PySem.W.minD s.X.K vs H Q) := call_or (cr_min hc) (cr_minD hc hu)
theorem sem_min1 : CallSem s cMin1 (fun vs H Q => rMin s.X.K vs H Q ∨ rBestD PySem.W.minD s.X.K vs H Q) := sem_or sem_minL sem_minD
theorem call_max1 (hc : s.X.calm = true) (hu : s.X.A.units + 65 < cLine) : CallR s.X (.builtin "max") (fun vs H Q => rMax s.X.K vs H Q ∨ rBestD PySem.W.maxD s.X.K vs H Q) := call_or (cr_max hc) (cr_maxD hc hu)
theorem sem_max1 : CallSem s cMax1 (fun vs H Q => rMax s.X.K vs H Q ∨ rBestD PySem.W.maxD s.X.K vs H Q) := sem_or sem_maxL sem_maxD
theorem mt_indexD' (hu : s.X.A.units + 65 < cLine) : MtR s.X "list.index" (rIndexD s.X.K) := mt_indexD hu
end
end Dv

set_option maxHeartbeats 4000000
namespace Dv
open PySem PySem.Spec PyProof.Rows L2
set_option autoImplicit false
/-! ### a, b = e1, e2, the first a list of its own -/
def mParO (base i j : Nat) (oj : Bool) (m n : ME) : MS := fun ρ S => bindE (m ρ S) ρ fun d S1 => if isNew d then (match n ρ S1 with
  | .ok e S2 => match (if oj then holdO base j e ρ S2 else holdV base j e ρ S2) with
    | .nx ρ1 S3 => holdO base i d ρ1 S3
    | _ => .bad
  | _ => .bad) else .bad
section
variable {s : Sit} {ρ : Rho} {S S1 : Store} {A : Wy} {σ : L2.St} {H H1 : Hp}
/-- the state with a fresh list that nobody knows -/
def Wy.more (A : Wy) (a : Addr) : Wy := ⟨A.loc, fun x => A.ph x ∨ x = a⟩
theorem more_own {A : Wy} {S : Store} {a : Addr} : Own (A.more a) S = fun x => Own A S x ∨ x = a := by
  funext x
  refine propext ⟨?_, ?_⟩
  · rintro (h | h | h)
    · exact .inl (.inl h)
    · exact .inl (.inr h)
    · exact .inr h
  · rintro ((h | h) | h)
    · exact .inl h
    · exact .inr (.inl h)
    · exact .inr (.inr h)
theorem more_cn {a : Addr} {d : D} (c : Cn s ρ S A σ H) (p : Pst s.X.K A S H S1 H1) (ha : H a = none) (ca : Cell s.X.K H1 (fun x => Own A S1 x ∨ x = a) a d) (fc : ∀ (n : Nat) (e : D), S1[n]? = some (some e) → Cell s.X.K H1 (fun x => Own A S1 x ∨ x = a) (A.loc n) e) :
    Cn s ρ S1 (A.more a) σ H1 := by
  have c1 := c.step p
  have gr : Grow H (Own A S) (Own (A.more a) S1) := fun x z => by
    rw [more_own] at z
    rcases z with z | z
    · rw [p.own] at z; exact .inl z
    · exact .inr (by rw [z]; exact ha)
  refine ⟨fun i e he => ?_, ⟨fun n e h => ?_, c1.cells.inj, fun x z => ?_, fun x z y => ?_⟩, c.disc, c.len, c1.room⟩
  · obtain ⟨v, h1, h2⟩ := c.slot i e he
    refine ⟨v, h1, ?_⟩
    rcases h2 with ⟨n, e', q1, q2, q3⟩ | h | ⟨k, fs, dd, q1, q2, q3⟩
    · obtain ⟨e2, q4⟩ := p.lives.get q3
      exact .inl ⟨n, e2, q1, q2, q4⟩
    · exact .inr (.inl (h.ext c.cells.owns p.ext.own gr))
    · exact .inr (.inr ⟨k, fs, dd, q1, q2, q3.ext c.cells.owns p.ext.own gr⟩)
  · rw [more_own]; exact fc n e h
  · rcases z with z | z
    · exact c1.cells.phs x z
    · rw [z]; exact ca.mu
  · rcases z with z | z
    · exact c1.cells.apart x z y
    · have y' : OwC A S1 x := y
      rw [p.lives.ownC] at y'
      obtain ⟨o, q, _⟩ := c.cells.owns x (.inl y')
      rw [z, ha] at q; cases q
/-- a list that is being made is the slot's own -/
theorem adopt {i : Nat} {a : Addr} {d : D} {A3 : Wy} {ph : Ow} (c : Cn s ρ S A3 σ H) (hp : A3.ph = fun x => ph x ∨ x = a) (ca : Cell s.X.K H (Own A3 S) a d) (hi : i < ρ.length) (PX : ∀ x, ph x → x ≠ a) :
    Cn s (ρ.set i (some (.loc (s.base + i)))) (S.set (s.base + i) (some d)) ⟨fun n => if n = s.base + i then a else A3.loc n, ph⟩ (σ.set i (some (.ref a))) H ∧
      ∀ x, OwC ⟨fun n => if n = s.base + i then a else A3.loc n, ph⟩ (S.set (s.base + i) (some d)) x → x = a ∨ OwC A3 S x := by
  have room : s.base + i < S.length := by have := c.room; omega
  have na : ¬ OwC A3 S a := c.cells.apart a (by rw [hp]; exact .inr rfl)
  have gS : ∀ (n : Nat) (e : D), (S.set (s.base + i) (some d))[n]? = some (some e) → (n = s.base + i ∧ e = d) ∨ (n ≠ s.base + i ∧ S[n]? = some (some e)) := fun n e h => by
    rw [List.getElem?_set] at h
    split at h
    · rename_i z
      cases h; exact .inl ⟨z.symm, rfl⟩
    · rename_i z; exact .inr ⟨fun y => z y.symm, h⟩
  have own0 : ∀ x, OwC ⟨fun n => if n = s.base + i then a else A3.loc n, ph⟩ (S.set (s.base + i) (some d)) x → x = a ∨ OwC A3 S x := by
    rintro x ⟨n, e, h, rfl⟩
    rcases gS n e h with ⟨h1, h2⟩ | ⟨h1, h2⟩
    · exact .inl (if_pos h1)
    · refine .inr ⟨n, e, h2, ?_⟩
      exact (if_neg h1).symm
  have own' : ∀ x, Own ⟨fun n => if n = s.base + i then a else A3.loc n, ph⟩ (S.set (s.base + i) (some d)) x → Own A3 S x := by
    rintro x (z | z)
    · rcases own0 x z with e | e
      · exact .inr (by rw [hp]; exact .inr e)
      · exact .inl e
    · exact .inr (by rw [hp]; exact .inl z)
  have ow := c.cells.owns
  refine ⟨⟨fun j e he => ?_, ⟨fun n e h => ?_, fun n m e e' h h' z => ?_, fun x z => c.cells.phs x (by rw [hp]; exact .inl z), fun x hx z => ?_⟩, fun j n he => ?_, by simp [c.len], by simpa using c.room⟩, own0⟩
  · rw [List.getElem?_set] at he
    split at he
    · rename_i hij
      subst hij
      cases he
      refine ⟨.ref a, by rw [List.getElem?_set_self (by rw [c.len]; exact hi)], .inl ⟨_, d, rfl, ?_, ?_⟩⟩
      · show V.ref a = V.ref (if s.base + i = s.base + i then a else A3.loc _)
        rw [if_pos rfl]
      · rw [List.getElem?_set_self room]
    · rename_i hij
      obtain ⟨w, h1, h2⟩ := c.slot j e he
      refine ⟨w, by rw [List.getElem?_set_ne hij]; exact h1, ?_⟩
      rcases h2 with ⟨n, e', q1, q2, q3⟩ | h | ⟨k, fs, dd, q1, q2, q3⟩
      · subst q1
        have hn : n ≠ s.base + i := by
          rcases c.disc j n he with z | z <;> omega
        refine .inl ⟨n, e', rfl, ?_, by rw [List.getElem?_set_ne (Ne.symm hn)]; exact q3⟩
        rw [q2]
        show _ = V.ref (if n = s.base + i then a else A3.loc n)
        rw [if_neg hn]
      · exact .inr (.inl (h.own ow own'))
      · exact .inr (.inr ⟨k, fs, dd, q1, q2, q3.ext ow (.refl _ _) fun x z => .inl (own' x z)⟩)
  · rcases gS n e h with ⟨h1, h2⟩ | ⟨h1, h2⟩
    · subst h2
      show Cell _ _ _ (if n = s.base + i then a else A3.loc n) _
      rw [if_pos h1]
      exact ca.own ow own'
    · show Cell _ _ _ (if n = s.base + i then a else A3.loc n) _
      rw [if_neg h1]
      exact (c.cells.at_ n e h2).own ow own'
  · have z : (if n = s.base + i then a else A3.loc n) = (if m = s.base + i then a else A3.loc m) := z
    rcases gS n e h with ⟨h1, _⟩ | ⟨h1, h2⟩ <;> rcases gS m e' h' with ⟨k1, _⟩ | ⟨k1, k2⟩
    · omega
    · rw [if_pos h1, if_neg k1] at z
      exact absurd ⟨m, e', k2, z.symm⟩ na
    · rw [if_neg h1, if_pos k1] at z
      exact absurd ⟨n, e, h2, z⟩ na
    · rw [if_neg h1, if_neg k1] at z
      exact c.cells.inj n m e e' h2 k2 z
  · rcases own0 x z with e | e
    · subst e
      obtain ⟨_, _⟩ := c.cells.phs x (by rw [hp]; exact .inr rfl)
      exact PX x hx rfl
    · exact c.cells.apart x (by rw [hp]; exact .inl hx) e
  · rw [List.getElem?_set] at he
    split at he
    · rename_i hij
      subst hij
      cases he
      exact .inr rfl
    · exact c.disc j n he
variable {m n : ME}
theorem parO_red {i j : Nat} {oj : Bool} {D : Ends} (hij : i ≠ j) (q : tDs s (mParO s.base i j oj m n) D σ H) : tD s m σ H fun x H1 => tD s n σ H1 fun y H2 => D.nx ((σ.set i (some x)).set j (some y)) H2 := by
  obtain ⟨ρ, S, A, c, q⟩ := q
  refine ⟨ρ, S, A, c, ?_⟩
  unfold mParO at q
  cases em : m ρ S with
  | exc x fs S1 => rw [em] at q; intro dd H1 p z; exact q dd σ H1 A (p.pss c.cells) (c.step p) z
  | bad => rw [em] at q; exact q
  | ok d S1 =>
    rw [em] at q
    dsimp only [bindE_ok] at q
    intro v H1 p r f
    split at q
    case isFalse => exact q.elim
    rename_i hn
    obtain ⟨a, rfl, ha, ca, fc⟩ := f hn
    have c1 := more_cn c p ha ca fc
    have nph : ∀ x, A.ph x → x ≠ a := fun x z y => by
      obtain ⟨o, q, _⟩ := c.cells.phs x z
      rw [y, ha] at q; cases q
    have na : ¬ OwC (A.more a) S1 a := c1.cells.apart a (.inr rfl)
    have oc : OwC (A.more a) S1 = OwC A S := by
      have : OwC (A.more a) S1 = OwC A S1 := rfl
      rw [this, p.lives.ownC]
    refine ⟨ρ, S1, A.more a, c1, ?_⟩
    cases en : n ρ S1 with
    | exc x fs S2 => rw [en] at q; exact q.elim
    | bad => rw [en] at q; exact q.elim
    | ok e S2 =>
      rw [en] at q
      dsimp only at q
      intro w H2 p2 r2 f2
      let Q' : Ends := { D with nx := fun σ' H' => D.nx (σ'.set i (some (.ref a))) H' }
      have key : ∀ rr : ResS, SOut s A S H D (match rr with | .nx ρ1 S3 => holdO s.base i d ρ1 S3 | _ => .bad) → SOut s (A.more a) S1 H1 Q' rr := fun rr q => by
        cases rr with
        | nx ρ1 S3 =>
          intro σ3 H3 A3 p3 c3
          have q : SOut s A S H D (holdO s.base i d ρ1 S3) := q
          unfold holdO at q
          split at q
          case isFalse => exact q.elim
          rename_i hi
          simp only [Bool.and_eq_true, decide_eq_true_eq] at hi
          have hp : A3.ph = fun x => A.ph x ∨ x = a := p3.ph
          have g3 : Grow H1 (Own (A.more a) S1) (Own A3 S3) := fun x z => by
            rcases z with z | z
            · exact (p3.grow x z).imp .inl id
            · rw [p3.ph] at z; exact .inl (.inr z)
          have ca' : Cell s.X.K H1 (Own (A.more a) S1) a d := by rw [more_own]; exact ca
          have ca3 : Cell s.X.K H3 (Own A3 S3) a d := ca'.ext c1.cells.owns p3.ext.own g3 fun o z => p3.ext a o z na
          obtain ⟨c4, own0⟩ := adopt (ph := A.ph) c3 hp ca3 hi.2 nph
          refine q _ H3 ⟨fun n => if n = s.base + i then a else A3.loc n, A.ph⟩ ⟨?_, ?_, fun x z => p.free c.cells x (p3.free x z), fun k hk => ?_, rfl, fun k hk => ?_, ?_⟩ c4
          · intro x o z y
            refine p3.ext x o (p.ext x o z y) ?_
            rw [oc]; exact y
          · intro x z
            rcases own0 x z with z | z
            · exact .inr (by rw [z]; exact ha)
            · rcases p3.grow x z with z | z
              · rw [oc] at z; exact .inl z
              · exact .inr (p.free c.cells x z)
          · show (if k = s.base + i then a else A3.loc k) = _
            rw [if_neg (by omega)]
            exact p3.low k hk
          · rw [List.getElem?_set_ne (by omega), p3.lives k hk]
            exact p.lives k
          · rw [List.length_set, p3.len, p.len]
        | _ => exact q.elim
      have e1 : (σ.set i (some (.ref a))).set j (some w) = (σ.set j (some w)).set i (some (.ref a)) := List.set_comm _ _ hij
      rw [e1]
      show Q'.nx (σ.set j (some w)) H2
      have q' := key _ q
      cases oj with
      | true => exact holdO_go c1 p2 r2 f2 q'
      | false => exact holdV_go (c1.step p2) r2 (SOut.on (p2.pss c1.cells) q')
variable {a b : Expr} {i j : Nat} {oj : Bool} {x y : Str} {px py pt pos : Pos} {kt k2 : Nat} {pt2 : Pos}
theorem s_parO (hc : s.X.calm = true) (hN : s.X.N.Nodup) (hi : s.X.N[i]? = some x) (hj : s.X.N[j]? = some y) (hij : i ≠ j)
    (hx : s.X.env.scope.names.lookup x = some .local) (hy : s.X.env.scope.names.lookup y = some .local) (ha : SE s a m) (hb : SE s b n)
    (hw : swappedStores [.Tuple [.Name x px, .Name y py] kt pt] (.Tuple [a, b] k2 pt2) s.X.env = pure (some [x, y]))
    (hs : swapsWithSole [.Tuple [.Name x px, .Name y py] kt pt] (.Tuple [a, b] k2 pt2) pos.line s.X.env = pure false := by rfl)
    (h1 : starEach [a, b] s.X.env = (false, eval a s.X.env) :: starEach [b] s.X.env := by rfl) (h2 : starEach [b] s.X.env = (false, eval b s.X.env) :: starEach [] s.X.env := by rfl) :
    SS s (.Assign [.Tuple [.Name x px, .Name y py] kt pt] (.Tuple [a, b] k2 pt2) pos) (mParO s.base i j oj m n) :=
  PS.weak (ps_par hc hN hi hj hij hx hy (pa_cons ha (pa_cons hb pa_nil h2) h1) hw hs) fun D σ H q =>
    tD_mono (fun v H1 h => tD_mono (fun w H2 h => ⟨v, w, rfl, h⟩) h) (parO_red hij q)
end
end Dv

set_option maxHeartbeats 4000000
namespace Dv
open PySem PySem.Spec PyProof.Rows L2
open AutoSeq1 (wpAny_loadPart')
set_option autoImplicit false
/-! ### enumerate(t), t a tuple -/
theorem meets_enumT (l : Addr) (items : Array Value) (n : Nat) (dct : Option Addr) (sl : Array (Option Value)) :
    Meets (Builtin.«enumerate.__new__» ⟨[.type "enumerate", .ref l], []⟩) (fun _ R s => s.heap.get? l = some { cls := .type "tuple", dict := dct, data := .seq items n, slots := sl } ∧
      R (.ok (.ret (.ref (s.heap.push { cls := .type "tuple_iterator", data := .fields #[.ref l, .int 0 0] }).objs.size)))
        { s with heap := (s.heap.push { cls := .type "tuple_iterator", data := .fields #[.ref l, .int 0 0] }).push { cls := .type "enumerate", data := .fields #[.none, .bool false, .ref s.heap.objs.size, rawInt 0, .none, .none] } }) :=
  .of_wp fun prog w A R s h => by
    obtain ⟨hp, g, d, tk, os⟩ := s
    obtain ⟨hl, h⟩ := h
    have hsub := sub_enumerate
    have hL : Heap.IsTuple (Shared.heap ⟨hp, g, d, tk, os⟩) l items := ⟨_, hl, rfl, n, rfl⟩
    wp_walk using wpAny_loadPart' hl
    refine wpAny_stack_any fun st => wpAny_pure ?_
    split
    · rename_i c _ _ _ _ _
      cases (c == Value.type "enumerate")
      · wp_walk using wpAny_loadPart' hl, wpAny_pyIter_tuple hL
        exact ⟨_, rfl, h⟩
      · wp_walk using wpAny_loadPart' hl, wpAny_pyIter_tuple hL
        exact ⟨_, rfl, h⟩
    · wp_walk using wpAny_loadPart' hl, wpAny_pyIter_tuple hL
      exact ⟨_, rfl, h⟩
section
variable {prog : Program} {w : World} {A : Around} {E : Value → Shared → Prop} {s : Shared}
theorem call_enumT {l : Addr} {items : Array Value} {Q : Value → Shared → Prop} (hL : s.heap.IsTuple l items)
    (h : ∀ h', IsEnum h' (s.heap.objs.size + 1) s.heap.objs.size 0 .none → h'.IsTupleIter s.heap.objs.size l 0 → h'.objs.size = s.heap.objs.size + 2 →
      (∀ b o, s.heap.get? b = some o → h'.get? b = some o) → Q (.ref (s.heap.objs.size + 1)) { s with heap := h' }) :
    wpAny (model prog w) A (call (.type "enumerate") [.ref l]) Q E s := by
  obtain ⟨⟨c, dct, dt, sl⟩, hl, hc, n, hd⟩ := hL
  replace hc : c = .type "tuple" := hc
  replace hd : dt = .seq items n := hd
  subst hc hd
  refine callType_new F.called_enumerate (by decide) (F.typeCall_enumerate_1 _) (F.newCall_enumerate_1 _) (fun obj => F.args_object_init_2 obj _) F.entry_enumerate_new
    (meets_enumT l items n dct sl) ⟨hl, ?_⟩
  have hz : (s.heap.push { cls := .type "tuple_iterator", data := .fields #[.ref l, .int 0 0] }).objs.size = s.heap.objs.size + 1 := Heap.size_push ..
  show _ ∧ _
  rw [hz]
  have he : IsEnum ((s.heap.push { cls := .type "tuple_iterator", data := .fields #[.ref l, .int 0 0] }).push
      { cls := .type "enumerate", data := .fields #[.none, .bool false, .ref s.heap.objs.size, rawInt 0, .none, .none] }) (s.heap.objs.size + 1) s.heap.objs.size 0 .none := by
    have := Heap.get?_push_size (s.heap.push { cls := .type "tuple_iterator", data := .fields #[.ref l, .int 0 0] })
      (o := { cls := .type "enumerate", data := .fields #[.none, .bool false, .ref s.heap.objs.size, rawInt 0, .none, .none] }) rfl
    rw [hz] at this; exact this
  refine ⟨⟨_, he, rfl⟩, h _ he ⟨_, Heap.get?_push_of_some _ (Heap.get?_push_size _ rfl), rfl, rfl⟩ (by rw [Heap.size_push, hz]) fun b o x => Heap.get?_push_of_some _ (Heap.get?_push_of_some _ x)⟩
end
/-- the tuple at a, each item in a new pair -/
def IteT (K : PySem.W.Frag) (a : Addr) : It :=
  ⟨fun i H => ∃ (xs : List V) (x : V), SqT K H a xs ∧ xs[i]? = some x, fun i H v H' => ∃ T x, v = .ref T ∧ H T = none ∧ H' = upd H T (.tup [.int (i : Nat), x]) ∧ ∀ xs, SqT K H a xs → xs[i]? = some x, fun i H => ∃ xs : List V, SqT K H a xs ∧ xs.length ≤ i⟩
theorem turn_enumT {P : Program} {w : World} {K : PySem.W.Frag} {elts : List Expr} {kk : Nat} {tpos : Pos} (a e it : Addr) (hai : a ≠ it) (hea : e ≠ a) :
    Turn P w K (.Tuple elts kk tpos) (IteT K a) [e, it] e (fun i h => (∃ old, IsEnum h e it ((i : Nat) : Int) old) ∧ h.IsTupleIter it a i ∧ e ≠ it) where
  mem := by simp
  obj := fun i h st b hb => by
    obtain ⟨⟨old, he⟩, ⟨o, ho, hc, hd⟩, _⟩ := st
    have e' : b = e ∨ b = it := by simpa using hb
    rcases e' with z | z
    · rw [z]; exact ⟨_, he, fun v q => nomatch q⟩
    · rw [z]; exact ⟨o, ho, fun v q => by rw [hd] at q; cases q⟩
  keep := fun i h h' st k => let ⟨⟨old, he⟩, hi, hne⟩ := st; ⟨⟨old, k e (by simp) _ he⟩, hi.at fun o q => k it (by simp) o q, hne⟩
  item := by
    intro X hP hw hK hc i pins s σ H E I hf st hg
    subst hP hw hK
    obtain ⟨⟨old, he⟩, hit, hne⟩ := st
    obtain ⟨xs, x, hq, hx⟩ := hg
    obtain ⟨its, rv, p, hz⟩ := I.tuple hq
    obtain ⟨u, hu, ru⟩ := rv.get hx
    have hel : e < s.heap.objs.size := Heap.lt_size he
    have hil : it < s.heap.objs.size := by obtain ⟨_, q, _⟩ := hit; exact Heap.lt_size q
    have pT : s.heap.IsTuple a its.toArray := p
    have D : Draws X.prog X.w X.A.in1 it [it, a] its.toArray.size (fun i v => its.toArray[i]? = some v) (fun i h => h.IsTupleIter it a i ∧ h.IsTuple a its.toArray) := Draws.tuple (A := X.A.in1) (I.ok.hd hc) it a hai its.toArray
    have hlt : i < its.toArray.size := by
      have := (List.getElem?_eq_some_iff.mp hu).1
      simpa using this
    refine wpAny_pyNext_enum_itemD D he ⟨hit, pT⟩ hlt hne (by simp [hne, hea]) fun y h' tk hP ho st' hT hsz hk => ?_
    have hP' : its[i]? = some y := by simpa using hP
    rw [hu] at hP'
    cases hP'
    refine ⟨_, rfl, wpAny_letOwnedTupleGo_enum (s := { s with heap := h', toks := tk + 1 }) ho fun h'' he' sb => ?_⟩
    have hT2 : h''.get? s.heap.objs.size = some { cls := .type "tuple", data := .seq #[.int i tk, u] } := (sb.2 _ (Nat.ne_of_gt hel)).trans hT
    have new : ObjOk X.prog X.w (upd H s.heap.objs.size (.tup [.int (i : Nat), x])) h'' s.heap.objs.size (.tup [.int (i : Nat), x]) :=
      ⟨by show 2 ≤ sizeLine; decide, [.int i tk, u], .cons ⟨_, rfl⟩ (.cons ru .nil), ⟨_, hT2, rfl, _, rfl⟩⟩
    have I1 : L2.Inv X pins σ (upd H s.heap.objs.size (.tup [.int (i : Nat), x])) { s with heap := h'', toks := tk + 1 } :=
      I.turnedNew (ch := [e, it]) (fun b ob hb q => (sb.2 b (fun z => hb (by simp [z]))).trans (hk b ob (fun z => hb (by simp [z])) (fun z => hb (by simp [z])) q)) hf (Nat.le_refl _) new
    refine ⟨.ref s.heap.objs.size, _, I1, rfl, ⟨_, x, rfl, I.hok.fresh (Nat.le_refl _), rfl, fun ys hy => by rw [I.tuple_inj hy hq]; exact hx⟩, ⟨⟨u, ?_⟩, st'.1.at fun o q => (sb.2 it (Ne.symm hne)).trans q, hne⟩, fun b hb => ?_⟩
    · have e1 : ((i + 1 : Nat) : Int) = (i : Int) + 1 := by omega
      rw [e1]; exact he'
    · have hb' : b < s.heap.objs.size := by
        have e' : b = e ∨ b = it := by simpa using hb
        rcases e' with z | z
        · rw [z]; exact hel
        · rw [z]; exact hil
      rw [upd_ne (Nat.ne_of_lt hb')]
      exact (hf b hb).1
  done := by
    intro X hP hw hK hc i pins s σ H E I hf st hg
    subst hP hw hK
    obtain ⟨⟨old, he⟩, hit, hne⟩ := st
    obtain ⟨xs, hq, hx⟩ := hg
    obtain ⟨its, rv, p, hz⟩ := I.tuple hq
    have pT : s.heap.IsTuple a its.toArray := p
    obtain ⟨f0, f1, f2, f3, f4, f5⟩ := hf it (by simp)
    have hl := rv.length
    have D : Draws X.prog X.w X.A.in1 it [it, a] i (fun i v => False) (fun j h => j = i ∧ h.IsTupleIter it a i ∧ h.IsTuple a its.toArray) :=
      ⟨fun _ _ st => let ⟨_, ⟨o, ho, _⟩, _⟩ := st; ⟨o, ho⟩, fun _ _ _ st hk => ⟨st.1, st.2.1.at fun o e => hk it (by simp) o e, st.2.2.at fun o e => hk a (by simp) o e⟩,
        fun j s Q E hi st _ => absurd st.1 (by omega), fun s Q E st hE => wpAny_nextOf_tuple_end (I.ok.hd hc) st.2.1 st.2.2 (by simp; omega) hE⟩
    exact wpAny_pyNext_enum_endD D he ⟨rfl, hit, pT⟩ fun h' eb => ⟨rfl, I.turned (t' := s.toks) (fun b o hb q => eb b o hb q) f0 f1 f3 f4 f5⟩
  self := fun A i s Q E st h => let ⟨⟨_, he⟩, _⟩ := st; wpAny_pyIter_enum he h
def iEnumT (K : PySem.W.Frag) (ta : TA) : TI := fun σ H R => ta σ H fun vs H1 => ∃ a xs, vs = [.ref a] ∧ ((SqL K H1 a xs ∧ R (Ite K a) H1) ∨ (SqT K H1 a xs ∧ R (IteT K a) H1))
theorem pi_enumT {X : Cx} {e : Expr} {ta : TA} {p pos tpos : Pos} {elts : List Expr} {kk : Nat} (hg : Gl X "enumerate") (hm : X.mg "enumerate" = none) (ha : PA X [e] ta) (hs : starEach [e] X.env = [(false, eval e X.env)] := by rfl) :
    PI X (.Tuple elts kk tpos) (.Call (.Name "enumerate" p) [e] [] pos) (iEnumT X.K ta) := by
  refine ⟨fun pins s σ H R I h => ?_⟩
  refine Call_ (ld_blt I hg hm boot_enumerate (PyProof.Rows.callWith_type1 (thn (ha.run pos pins s σ H _ I h) fun us s1 ⟨vs, H1, I1, r1, q1⟩ => ?_) hs rfl))
  obtain ⟨a, xs, ex, q1⟩ := q1
  subst ex
  cases r1 with
  | cons r rr =>
    cases rr
    cases r
    have fp : ∀ b ∈ [s1.heap.objs.size + 1, s1.heap.objs.size], s1.heap.objs.size ≤ b := fun b hb => by
      have e' : b = s1.heap.objs.size + 1 ∨ b = s1.heap.objs.size := by simpa using hb
      rcases e' with z | z
      · rw [z]; exact Nat.le_add_right _ _
      · rw [z]; exact Nat.le_refl _
    rcases q1 with ⟨hq, q⟩ | ⟨hq, q⟩
    · obtain ⟨its, rv, p', hz⟩ := I1.list hq
      refine call_enumerate_list p'.isList fun h' he hit hsz hk => wpAny_pyIter_enum he ?_
      have I2 : L2.Inv X pins σ H1 { s1 with heap := h' } := I1.kept (t' := s1.toks) hk
      exact ⟨s1.heap.objs.size + 1, [s1.heap.objs.size + 1, s1.heap.objs.size], _, _, H1, rfl, I2, turn_enum a (s1.heap.objs.size + 1) s1.heap.objs.size, ⟨⟨.none, he⟩, hit, Nat.succ_ne_self _⟩, fun b hb => I1.fpOk (fp b hb) (I1.hok.fresh (fp b hb)), q⟩
    · obtain ⟨its, rv, p', hz⟩ := I1.tuple hq
      have pT : s1.heap.IsTuple a its.toArray := p'
      have hal : a < s1.heap.objs.size := by obtain ⟨_, q, _⟩ := pT; exact Heap.lt_size q
      refine call_enumT pT fun h' he hit hsz hk => wpAny_pyIter_enum he ?_
      have I2 : L2.Inv X pins σ H1 { s1 with heap := h' } := I1.kept (t' := s1.toks) hk
      exact ⟨s1.heap.objs.size + 1, [s1.heap.objs.size + 1, s1.heap.objs.size], _, _, H1, rfl, I2, turn_enumT a (s1.heap.objs.size + 1) s1.heap.objs.size (Nat.ne_of_lt hal) (Nat.ne_of_gt (Nat.lt_succ_of_lt hal)), ⟨⟨.none, he⟩, hit, Nat.succ_ne_self _⟩, fun b hb => I1.fpOk (fp b hb) (I1.hok.fresh (fp b hb)), q⟩
def srE2 (n : MA) : Src := fun ρ S => (n ρ S).bind fun ds S1 => match ds with
  | [.lst _ xs] => .ok (enumFrom 0 xs) S1
  | [.rol xs] => .ok (enumFrom 0 xs) S1
  | [.tup xs] => .ok (enumFrom 0 xs) S1
  | _ => .bad
section
variable {s : Sit} {tg e : Expr} {m : ME}
theorem si_enum2 {n : MA} {p pos tpos : Pos} {elts : List Expr} {kk : Nat} (hg : Gl s.X "enumerate") (hm : s.X.mg "enumerate" = none) (ha : SA s [e] n) (hs : starEach [e] s.X.env = [(false, eval e s.X.env)] := by rfl) :
    SI s (.Tuple elts kk tpos) (.Call (.Name "enumerate" p) [e] [] pos) (srE2 n) := by
  refine PI.weak (pi_enumT hg hm ha hs) fun σ H R q => ?_
  obtain ⟨ρ, S, A, c, q⟩ := q
  refine tDa_bindI c q fun ds S1 vs H1 em p1 c1 r1 q1 => ?_
  have key : ∀ d xs, vals d = some xs → ds = [d] → IOut s A S1 H1 σ R (.ok (enumFrom 0 xs) S1) → iEnumT s.X.K (fun σ H Q => Q vs H) σ H1 R := fun d ds' hv e q2 => by
    subst e
    obtain ⟨v, rfl, r3⟩ := r1.one
    have r2 : Rp s.X.K H1 (Own A S1) v d := r3.rp (fun n z => by subst z; cases hv) fun c fs z => by subst z; cases hv
    obtain ⟨a, xs, rfl, hs, hl, later⟩ := list_later c1.cells r2 hv
    refine ⟨a, xs, rfl, .inl ⟨hs, q2 _ H1 (.refl c1.cells) fun A' S' H' e g c' => ⟨fun i x hd => ?_, ?_⟩⟩⟩
    · obtain ⟨l1, l2⟩ := later A' S' H' e g
      obtain ⟨y, h1, rfl⟩ := enumFrom_get ds' 0 i x hd
      obtain ⟨w, hw, rw'⟩ := l2.get h1
      refine ⟨⟨xs, w, l1, hw⟩, fun z H'' hy => ?_⟩
      obtain ⟨T, u, rfl, hT, rfl, hu⟩ := hy
      have := hu xs l1
      rw [hw] at this; cases this
      rw [Nat.zero_add]
      exact pair_new c' hT (.int _) rw'
    · obtain ⟨l1, l2⟩ := later A' S' H' e g
      exact ⟨xs, l1, by rw [enumFrom_len]; omega⟩
  split at q1
  · exact key _ _ rfl rfl q1
  · exact key _ _ rfl rfl q1
  · rename_i ds'
    obtain ⟨v, rfl, r3⟩ := r1.one
    have r2 : Rp s.X.K H1 (Own A S1) v (.tup ds') := r3.rp (fun n z => nomatch z) fun c fs z => nomatch z
    obtain ⟨a, xs, rfl, hs, hl, later⟩ := tup_later c1.cells r2
    refine ⟨a, xs, rfl, .inr ⟨hs, q1 _ H1 (.refl c1.cells) fun A' S' H' e g c' => ⟨fun i x hd => ?_, ?_⟩⟩⟩
    · obtain ⟨l1, l2⟩ := later A' S' H' e g
      obtain ⟨y, h1, rfl⟩ := enumFrom_get ds' 0 i x hd
      obtain ⟨w, hw, rw'⟩ := l2.get h1
      refine ⟨⟨xs, w, l1, hw⟩, fun z H'' hy => ?_⟩
      obtain ⟨T, u, rfl, hT, rfl, hu⟩ := hy
      have := hu xs l1
      rw [hw] at this; cases this
      rw [Nat.zero_add]
      exact pair_new c' hT (.int _) rw'
    · obtain ⟨l1, l2⟩ := later A' S' H' e g
      exact ⟨xs, l1, by rw [enumFrom_len]; omega⟩
  · exact q1.elim
end
end Dv

set_option maxHeartbeats 4000000
namespace Dv
open PySem PySem.Spec PyProof.Rows L2
set_option autoImplicit false
/-! ### repr(None), repr of lists and tuples -/
def rReprN : List V → Hp → VK → Prop := fun xs H Q => xs = [.non] ∧ Q (.str "None") H
theorem call_reprN {X : Cx} : CallR X (.builtin "repr") rReprN := by
  intro pins s σ H xs us Q I r h
  obtain ⟨rfl, q⟩ := h
  cases r with
  | cons rx rt =>
    cases rt
    cases rx
    exact PySem.P.repr_of_none ⟨.str "None", H, I.tok _, ⟨_, rfl⟩, q⟩
def cRepr2 (S : Store) (ds : List D) : Option D := match ds with
  | [.non] => some (.str "None")
  | ds => cRepr S ds
section
variable {s : Sit}
theorem call_repr2 (hg : s.X.A.guards = some []) (hu : s.X.A.units + 65 < cLine) : CallR s.X (.builtin "repr") (fun vs H Q => rReprN vs H Q ∨ rRepr s.X.K vs H Q) := call_or call_reprN (call_repr hg hu)
theorem sem_repr2 : CallSem s cRepr2 (fun vs H Q => rReprN vs H Q ∨ rRepr s.X.K vs H Q) := by
  intro A S H vs ds x Q c r hf q
  unfold cRepr2 at hf
  split at hf
  · cases hf
    obtain ⟨v, rfl, rv⟩ := r.one
    have e : v = .non := by
      rcases rv with ⟨_, _, z, _⟩ | z | ⟨_, _, _, z, _⟩
      · cases z
      · cases z; rfl
      · cases z
    subst e
    exact .inl ⟨rfl, old_of (.str _) rfl q⟩
  · exact .inr (sem_repr A S H vs ds x Q c r hf q)
end
end Dv

set_option maxHeartbeats 4000000
/-! an own error that keeps what it takes: super().__init__(x); self.x = x -/
namespace Dv
namespace Sup
open PySem PySem.W PySem.Calls PyProof.Rows PySem.Spec
set_option autoImplicit false
def eArgs (x : Str) (p1 p2 : Pos) : Arguments := { posonlyargs := [], args := [{ arg := PySem.Str.ofString "self", annotation := none, pos := p1 }, { arg := x, annotation := none, pos := p2 }], vararg := none, kwonlyargs := [], kw_defaults := [], kwarg := none, defaults := [] }
def eBody (x : Str) (a0 a1 a2 a3 a4 a5 a6 a7 a8 a9 : Pos) : List Stmt :=
  [.Expr (.Call (.Attribute (.Call (.Name "super" a0) [] [] a1) "__init__" a2) [.Name x a3] [] a4) a5, .Assign [.Attribute (.Name "self" a6) x a7] (.Name x a8) a9]
def eScope (x : Str) : Scope := { kind := .function, names := [(PySem.Str.ofString "self", .local), (x, .local), (PySem.Str.ofString "__class__", .free), (PySem.Str.ofString "super", .globalImplicit)], isGenerator := false, isCoroutine := false, more := [] }
/-- a name that may be such a field -/
structure FName (x : Str) : Prop where
  n1 : (PySem.Str.ofString "self" == x) = false
  n2 : (x == PySem.Str.ofString "self") = false
  n3 : (x == ("__debug__" : Str)) = false
  n4 : (("super" : Str) == x) = false
  n5 : (("__class__" : Str) == x) = false
  nb : ∀ (qual : Str) (p1 p2 : Pos) (body : List Stmt) (scope : Scope) (doc pm cdv ct : Value) (an : Option Addr) (cc : Addr) (a b : Value), bindArgs (ksFn "__init__" qual (eArgs x p1 p2) body scope .none .none doc pm an cdv ct cc) ⟨[a, b], []⟩ = pure [(PySem.Str.ofString "self", a), (x, b)]
/-- the call as the text's places have it -/
def CallEq (qual x : Str) (a0 a1 a2 a3 a4 : Pos) : Prop := ∀ (L fI cda cc : Addr), ∃ pl : Sem Bool, eval (.Call (.Attribute (.Call (.Name "super" a0) [] [] a1) "__init__" a2) [.Name x a3] [] a4) (ksEnv qual (eScope x) L fI (.ref cda) cc) = (do
  let ov ← attributeBase (.Call (.Name "super" a0) [] [] a1) "__init__" (ksEnv qual (eScope x) L fI (.ref cda) cc) (eval (.Call (.Name "super" a0) [] [] a1) (ksEnv qual (eScope x) L fI (.ref cda) cc))
  standAt a2.atName
  let (f, first) ← holding [ov] (getMethod ov "__init__" pl)
  callWith a4 f first (backTo a4 (starEach [.Name x a3] (ksEnv qual (eScope x) L fI (.ref cda) cc))) [])
/-- what is said of the class at C, of its __init__ at fI -/
structure ETxt (P : Program) (K : Frag) (C fI : Addr) (B newId initId : String) (bmB : List Value) (x : Str) : Prop where
  ex : excInitIn K C bmB newId = true
  ov : excOver K C bmB = true
  sa : findIn K (.ref C) "__setattr__" = some (some (.builtin "object.__setattr__"))
  noN : takerIn K C x = some none
  iC : findIn K (.ref C) "__init__" = some (some (.ref fI))
  iF : isFn K (.ref fI) = true
  kC : keepIn K (.ref C) = true
  exC : subIn K (.ref C) (.type "BaseException") = some true
  subB : subIn K (.ref C) (.type B) = some true
  subO : mroIn K C (.ref C) = some true
  tyC : typeIn K (.ref C) = some (.type "type")
  hdC : hasDictIn K C = true
  sup : ks_superIn K C C "__init__" = some (some (.builtin initId))
  st : nsIn K cStatics "thirdparty.any" = some none
  supg : nsIn K mainGlobals "super" = some none
  htop : (P.main.scope.names.lookup ("super" : Str)).isSome = false
  fn : ∃ (qual : Str) (oc : Value) (od : Option Addr) (doc pm : Value) (an : Option Addr) (cda : Addr) (ct : Value) (cc : Addr) (osl : Array (Option Value)) (p1 p2 a0 a1 a2 a3 a4 a5 a6 a7 a8 a9 : Pos) (ccl cl : Value) (cdd cld : Option Addr) (ccs csl : Array (Option Value)) (vs : Array Value) (file : Str) (tf : Tok),
    K.lookup fI = some ⟨oc, od, .func (ksFn "__init__" qual (eArgs x p1 p2) (eBody x a0 a1 a2 a3 a4 a5 a6 a7 a8 a9) (eScope x) .none .none doc pm an (.ref cda) ct cc), osl⟩ ∧ codeIn K (.ref cda) qual = true ∧
    K.lookup cda = some ⟨ccl, cdd, .fields vs, ccs⟩ ∧ vs[2]? = some (.str file tf) ∧ ((P.main.file : Str) == file) = true ∧ K.lookup cc = some ⟨cl, cld, .cell (some (.ref C)), csl⟩ ∧ CallEq qual x a0 a1 a2 a3 a4
/-- what __init__ leaves of a fresh error at e -/
structure InitEnd (h h' : Heap) (e C dx t1 : Addr) (x : Str) (v : Value) : Prop where
  keep : ∀ b o, b ≠ e → h.get? b = some o → h'.get? b = some o
  obj : h'.get? e = some { cls := .ref C, dict := some dx, data := .fields #[.ref t1, .none, .none, .none, .bool false, .none] }
  dbig : h.objs.size ≤ dx
  dne : dx ≠ e
  ns : h'.Ns1 dx (fun y => if y = x then some v else none)
theorem scope_self {x : Str} (N : FName x) : (eScope x).names.lookup (PySem.Str.ofString "self") = some .local := by simp [eScope, List.lookup]
theorem scope_x {x : Str} (N : FName x) : (eScope x).names.lookup x = some .local := by
  have := N.n2
  simp [eScope, List.lookup, this]
theorem scope_sup {x : Str} (N : FName x) : (eScope x).names.lookup ("super" : Str) = some .globalImplicit := by
  have h1 : (("super" : Str) == PySem.Str.ofString "self") = false := by decide
  have h2 := N.n4
  have h3 : (("super" : Str) == PySem.Str.ofString "__class__") = false := by decide
  have h4 : (("super" : Str) == PySem.Str.ofString "super") = true := by decide
  simp only [eScope, List.lookup, h1, h2, h3, h4]
theorem scope_cls {x : Str} (N : FName x) : (eScope x).names.lookup ("__class__" : Str) = some .free := by
  have h1 : (("__class__" : Str) == PySem.Str.ofString "self") = false := by decide
  have h2 := N.n5
  have h3 : (("__class__" : Str) == PySem.Str.ofString "__class__") = true := by decide
  simp only [eScope, List.lookup, h1, h2, h3]
/-- self.x = v on an error that has no dict yet -/
theorem osa_gen {prog : Program} {w : World} {A : Around} {R : Result → Shared → Prop} {hp : Heap} {g : Array GenState} {d : Drawn} {t : Nat} {os : OsState} {K : Frag} {B : String} {bmB : List Value} {name : Str} {tk : Tok} {v : Value} {e C : Addr} {fv : Array Value}
    (SF : StoreFacts B bmB "object.__setattr__" "object") (X : K.In hp) (he : hp.get? e = some { cls := .ref C, data := .fields fv }) (ov : excOver K C bmB = true) (hh : hasDictIn K C = true) (ha : takerIn K C name = some none)
    (hq : ∀ h' tk' dx, (∀ b o, b ≠ e → hp.get? b = some o → h'.get? b = some o) → hp.objs.size ≤ dx → dx ≠ e → h'.get? e = some { cls := .ref C, dict := some dx, data := .fields fv } →
      h'.Ns1 dx (fun y => if y = name then some v else none) → R (.ok (.ret .none)) ⟨h', g, d, tk', os⟩) :
    codeAny (model prog w) A (.call (.builtin "object.__setattr__") ⟨[.ref e, .str name tk, v], []⟩) R ⟨hp, g, d, t, os⟩ := by
  have I : InstAt hp e { cls := .ref C, data := .fields fv } C none := ⟨he, rfl, rfl, trivial⟩
  have hes : e ≠ hp.objs.size := Nat.ne_of_lt (Heap.lt_size he)
  refine osa_openX SF X I ov ha fun b => ?_
  unfold hasDictIn at hh
  cases hc : clsIn K C with
  | none => rw [hc] at hh; cases hh
  | some cd =>
    rw [hc] at hh
    have hcls : Looks (model prog w) hp (classData C) cd := looks_clsIn X hc
    obtain ⟨nm, bs, mro, ns, qn, hd, sn, sb, ab, col, del⟩ := cd
    have hh : hd = true := hh
    subst hh
    dsimp only
    unfold Builtin.ObjectAttr.storeInOwnDict Builtin.ObjectAttr.ownDictForStores
    repeat (first | with_reducible refine HandSPX.store_in_new ?_ ?_ | with_reducible refine wpAny_loadPart_at he ?_ | with_reducible refine hcls.at ?_ | wp_step)
    · exact ⟨_, #[], _, (Heap.get?_update_ne _ _ _ _ hes.symm).trans (Heap.get?_push_at rfl rfl), rfl, fun e he => absurd he (by simp), fun _ => rfl⟩
    · intro h' tk' hn' hs
      have he1 : (hp.push { cls := .type "dict", data := .dict #[] }).get? e = some { cls := .ref C, data := .fields fv } := Heap.get?_push_of_some _ he
      refine hq h' tk' hp.objs.size (fun b o hb ho => ?_) (Nat.le_refl _) hes.symm ?_ hn'
      · exact (hs.2 b (Nat.ne_of_lt (Heap.lt_size ho))).trans ((Heap.get?_update_ne _ _ _ _ hb).trans (Heap.get?_push_of_some _ ho))
      · exact (hs.2 e hes).trans (Heap.get?_update_self _ he1 rfl)
end Sup
end Dv

set_option maxHeartbeats 4000000
namespace Dv
namespace Sup
open PySem PySem.W PySem.Calls PyProof.Rows PySem.Spec
set_option autoImplicit false
section
variable {prog : Program} {w : World} {A : Around} {E : Value → Shared → Prop} {R : Result → Shared → Prop} {s : Shared} {K : Frag} {mg mb : Str → Option Value} {C fI : Addr} {B newId initId : String} {bmB : List Value} {x : Str}
/-- the built-in __init__, bound to the error, is called -/
theorem call_mw {u e t0 : Addr} {rest : List Value} {h : Heap} {g : Array GenState} {d : Drawn} {tk : Nat} {os : OsState} {Q : Value → Shared → Prop} (FB : ExcBaseFacts B newId initId bmB) (X : K.In h) (q : excInitIn K C bmB newId = true)
    (hu : h.get? u = some (kxs_mw initId e)) (he : h.get? e = some (excObj C t0 none .none)) (hz : rest.length ≤ sizeLine)
    (hq : ∀ h' t1, (∀ b o, b ≠ e → h.get? b = some o → h'.get? b = some o) → h'.get? e = some (excObj C t1 none .none) → Q .none ⟨h', g, d, tk, os⟩) :
    wpAny (model prog w) A (call (.ref u) rest) Q E ⟨h, g, d, tk, os⟩ := by
  obtain ⟨nm, N', qn, bs, bm, hdct, sn, sub, ab, col, dd, k0, k1, k2, k3, k5, hC, hT⟩ := excInit_of X q
  refine wpAny_call (codeAny_of_tree ?_)
  show wpAny _ A.in1 (callAny (.ref u) ⟨rest, []⟩) _ _ _
  simp only [callAny]
  refine wpAny_bind (wpAny_load hu ?_)
  simp only [kxs_mw, show (Value.type "method-wrapper" == Value.type "method" || Value.type "method-wrapper" == Value.type "builtin_function_or_method" || Value.type "method-wrapper" == Value.type "method-wrapper") = true by decide, if_true]
  refine KFB.if_so (by decide) (wpAny_bind (check_bound_init FB.toExcCallFacts hC he rfl ?_))
  refine wpAny_bind (wpAny_pure (wpAny_pure ⟨plainId_quiet FB.init.plain _, codeAny_builtin FB.initEntry ?_⟩))
  exact exc_init_tree (cls := .ref C) (t0 := t0) (dv := none) (c2 := .none) (c3 := .none) (b4 := .bool false) he hz fun h' k e1 _ => hq h' _ k e1
theorem init_ok {e t0 : Addr} {v : Value} (T : ETxt prog K C fI B newId initId bmB x) (N : FName x) (SF : StoreFacts B bmB "object.__setattr__" "object") (FB : ExcBaseFacts B newId initId bmB) (KF : KxsFacts B initId) (X : K.In s.heap) (hlim : s.heap.NoLimit)
    (G : s.heap.Ns mainGlobals mg) (Bn : s.heap.Ns builtinsNs mb) (hbb : ∀ x : Str, x ≠ "__name__" → mb x = bootBuiltins x) (he : s.heap.get? e = some (excObj C t0 none .none)) (hne : K.lookup e = none) (hroom : A.depth < recursionLimit)
    (hq : ∀ h' tk dx t1, InitEnd s.heap h' e C dx t1 x v → R (.ok (.ret .none)) { s with heap := h', toks := tk }) :
    codeAny (model prog w) A (.call (.ref fI) ⟨[.ref e, v], []⟩) R s := by
  obtain ⟨qual, oc, od, doc, pm, an, cda, ct, cc, osl, p1, p2, a0, a1, a2, a3, a4, a5, a6, a7, a8, a9, ccl, cl, cdd, cld, ccs, csl, vs, file, tf, ho, hcd, hcode, hvs, hfile, hcell, hce⟩ := T.fn
  have bsup : bootBuiltins "super" = some (.type "super") := by decide +kernel
  have ebind : ([(PySem.Str.ofString "self", Value.ref e), (x, v)] : List (Str × Value)).reverse.lookup x = some v := by simp [List.lookup]
  have ebind2 : ([(PySem.Str.ofString "self", Value.ref e), (x, v)] : List (Str × Value)).reverse.lookup (PySem.Str.ofString "self") = some (.ref e) := by
    have := N.n1
    simp [List.lookup, this]
  refine ks_codeAny_call_defAt (fd := ksFn "__init__" qual (eArgs x p1 p2) (eBody x a0 a1 a2 a3 a4 a5 a6 a7 a8 a9) (eScope x) .none .none doc pm an (.ref cda) ct cc) (body := eBody x a0 a1 a2 a3 a4 a5 a6 a7 a8 a9) (binds := [(PySem.Str.ofString "self", .ref e), (x, v)])
    hroom (X _ _ ho) rfl hlim (codeRec_of X hcd) rfl (BindsTo.of_eq ?_) (fun y hy => ?_) (fun y hy => ?_) fun h₀ hns k => ?_
  · exact N.nb _ _ _ _ _ _ _ _ _ _ _ _ _
  · have : y ∈ [(PySem.Str.ofString "self", NameKind.local), (x, .local), (PySem.Str.ofString "__class__", .free), (PySem.Str.ofString "super", .globalImplicit)] := hy
    simp only [List.mem_cons, List.mem_nil_iff, or_false] at this
    rcases this with rfl | rfl | rfl | rfl <;> simp
  · simp only [List.mem_cons, List.mem_nil_iff, or_false] at hy
    rcases hy with rfl | rfl
    · exact scope_self N
    · exact scope_x N
  have X0 : K.In h₀ := X.keeps k
  have he0 := k _ _ he
  have G0 : h₀.Ns mainGlobals mg := G.at fun o z => k _ _ z
  have B0 : h₀.Ns builtinsNs mb := Bn.at fun o z => k _ _ z
  show PySem.wpAt _ _ _ (execs _ (ksEnv qual (eScope x) s.heap.objs.size fI (.ref cda) cc)) _ _ _
  obtain ⟨pl, hce⟩ := hce s.heap.objs.size fI cda cc
  refine ks_wpAt_execs_cons (ks_wpAt_Expr_any (ks_wpAt_MethodCall (pl := pl) ?_ hce))
  obtain ⟨cd, hc⟩ : ∃ cd, clsIn K C = some cd := by
    have := T.subO
    unfold mroIn at this
    cases hc : clsIn K C with
    | none => rw [hc] at this; cases this
    | some cd => exact ⟨cd, rfl⟩
  obtain ⟨oD, hD1, hD2⟩ : ∃ oD, h₀.get? C = some oD ∧ oD.data = .cls cd := by
    have hc2 := hc
    unfold clsIn at hc2
    split at hc2
    · rename_i c d cd' sl ho
      cases hc2
      exact ⟨_, X0 _ _ ho, rfl⟩
    · cases hc2
  have I0 : InstAt h₀ e (excObj C t0 none .none) C none := ⟨he0, rfl, rfl, trivial⟩
  refine ks_wpAt_super_base (env := ksEnv qual (eScope x) s.heap.objs.size fI (.ref cda) cc) (scope_sup N) (scope_cls N) (by decide) rfl (X0 _ _ ho) rfl rfl rfl (X0 _ _ hcode) rfl hvs hfile T.htop ?_
  refine ks_loadName_global rfl (scope_sup N) (loadGlobal_builtin G0 (mg_none_of X0 G0 T.supg) B0 ((hbb _ (by decide +kernel)).trans bsup) ⟨rfl, ?_⟩)
  refine wpAny_loadName_free rfl (scope_cls N) rfl ⟨_, X0 _ _ hcell, rfl⟩ ?_
  refine wpAny_loadName_local rfl (scope_self N) hns ebind2 ?_
  refine ks_wpAny_isType_cls hD1 hD2 ⟨rfl, ?_⟩
  refine ks_wpAny_call_super hD1 hD2 he0 rfl (fun c z => nomatch z) (looks_mroIn X0 T.subO) fun h1 hso k1 => ?_
  -- super().__init__
  have X1 : K.In h1 := X0.keeps k1
  have he1 := k1 _ _ he0
  have I1 : InstAt h1 e (excObj C t0 none .none) C none := ⟨he1, rfl, rfl, trivial⟩
  have hm := T.sup
  unfold ks_superIn at hm
  rw [hc] at hm
  refine kxs_getMethod KF hso (looks_opaque X1 T.st) (l₀ := cd.mro) (fun A Q E s k q => wpAny_bind ((looks_clsIn X1 hc) A _ E s k (wpAny_pure q))) rfl X1 hm (I1.type.andThen (looks_subIn X1 T.subB)) (ks_ne X1 I1 hc) (by decide) ?_
  have hmw : (h1.push (kxs_mw initId e)).get? h1.objs.size = some (kxs_mw initId e) := Heap.get?_push_at rfl rfl
  have k2 : ∀ b o, h1.get? b = some o → (h1.push (kxs_mw initId e)).get? b = some o := fun b o z => Heap.get?_push_of_some _ z
  have he2 := k2 _ _ he1
  have hns2 : (h1.push (kxs_mw initId e)).Ns s.heap.objs.size fun y => ([(PySem.Str.ofString "self", Value.ref e), (x, v)] : List (Str × Value)).reverse.lookup y := (hns.at fun o z => k1 _ _ z).at fun o z => k2 _ _ z
  refine kxs_callWith (i := initId) (x := e) rfl (evalArgs_plain ?_)
  refine Calls.spliced_cons (wpAny_Name (wpAny_loadName_local rfl (scope_x N) hns2 ebind ?_) N.n3)
  refine Calls.spliced_nil ⟨hmw, ?_⟩
  refine call_mw FB (X1.keeps k2) T.ex hmw he2 (by show [v].length ≤ _; rw [sizeLine_eq]; exact (by decide : 1 ≤ 16777216)) fun h3 t1 k3 he3 => ?_
  -- self.x = x
  have X3 : K.In h3 := fun b o z => k3 b o (fun y => by rw [y, hne] at z; cases z) (X1.keeps k2 b o z)
  have eL : s.heap.objs.size ≠ e := Nat.ne_of_gt (Heap.lt_size he)
  have hns3 : h3.Ns s.heap.objs.size fun y => ([(PySem.Str.ofString "self", Value.ref e), (x, v)] : List (Str × Value)).reverse.lookup y := hns2.at fun o z => k3 _ _ eL z
  refine ks_wpAt_execs_cons (wpAt_of_wpAny (plainObj_wpAny_Assign_Attribute ?_))
  refine wpAny_Name (wpAny_loadName_local rfl (scope_x N) hns3 ebind ?_) N.n3
  refine wpAny_Name (wpAny_loadName_local rfl (scope_self N) hns3 ebind2 ?_) (by decide)
  refine set_plain X3 (ox := excObj C t1 none .none) (od := none) ⟨he3, rfl, rfl, trivial⟩ T.sa ?_
  refine osa_gen SF X3 he3 T.ov T.hdC T.noN fun h4 tk4 dx k4 dn dne he4 hn4 => ?_
  have old : ∀ b o, b ≠ e → s.heap.get? b = some o → h4.get? b = some o := fun b o hb z => k4 b o hb (k3 b o hb (k2 _ _ (k1 _ _ (k _ _ z))))
  have big : s.heap.objs.size ≤ dx := by
    have q1 : s.heap.objs.size < h3.objs.size := by
      obtain ⟨oL, _, _, hL, _⟩ := hns3
      exact Heap.lt_size hL
    exact Nat.le_trans (Nat.le_of_lt q1) dn
  refine wpAt_of_wpAny (wpAny_execs_nil ?_)
  exact hq h4 tk4 dx t1 ⟨old, he4, big, dne, hn4⟩
end
end Sup
end Dv

set_option maxHeartbeats 4000000
namespace Dv
namespace Sup
open PySem PySem.W PySem.Calls PyProof.Rows PySem.Spec
set_option autoImplicit false
/-- an error that was made: its own dict at d -/
structure Made (h h' : Heap) (e C d : Addr) (x : Str) (v : Value) : Prop where
  keep : ∀ b o, h.get? b = some o → h'.get? b = some o
  new : h.objs.size ≤ e
  obj : ∃ oe vs, h'.get? e = some oe ∧ oe.cls = .ref C ∧ oe.dict = some d ∧ oe.data = .fields vs ∧ vs[1]? = some .none
  dbig : h.objs.size ≤ d
  dne : d ≠ e
  ns : h'.Ns1 d (fun y => if y = x then some v else none)
/-- the bases of such errors -/
structure BTxt (B newId initId : String) (bmB : List Value) : Prop where
  sf : StoreFacts B bmB "object.__setattr__" "object"
  fb : ExcBaseFacts B newId initId bmB
  kf : KxsFacts B initId
theorem b_IndexError : BTxt "IndexError" "IndexError.__new__" "IndexError.__init__" [.type "IndexError", .type "LookupError", .type "Exception", .type "BaseException", .type "object"] := ⟨F.store_IndexError, F.excBase_IndexError, kxs_IndexError⟩
theorem b_LookupError : BTxt "LookupError" "LookupError.__new__" "LookupError.__init__" [.type "LookupError", .type "Exception", .type "BaseException", .type "object"] := ⟨F.store_LookupError, F.excBase_LookupError, kxs_LookupError⟩
theorem b_OverflowError : BTxt "OverflowError" "OverflowError.__new__" "OverflowError.__init__" [.type "OverflowError", .type "ArithmeticError", .type "Exception", .type "BaseException", .type "object"] := ⟨F.store_OverflowError, F.excBase_OverflowError, kxs_OverflowError⟩
theorem b_ArithmeticError : BTxt "ArithmeticError" "ArithmeticError.__new__" "ArithmeticError.__init__" [.type "ArithmeticError", .type "Exception", .type "BaseException", .type "object"] := ⟨F.store_ArithmeticError, F.excBase_ArithmeticError, kxs_ArithmeticError⟩
section
variable {prog : Program} {w : World} {A : Around} {E : Value → Shared → Prop} {R : Result → Shared → Prop} {s : Shared} {K : Frag} {mg mb : Str → Option Value} {C fI : Addr} {B newId initId : String} {bmB : List Value} {x : Str}
theorem made_ok {v : Value} (T : ETxt prog K C fI B newId initId bmB x) (N : FName x) (BT : BTxt B newId initId bmB) (X : K.In s.heap) (hlim : s.heap.NoLimit) (G : s.heap.Ns mainGlobals mg) (Bn : s.heap.Ns builtinsNs mb) (hbb : ∀ x : Str, x ≠ "__name__" → mb x = bootBuiltins x)
    (hroom : A.depth + 1 < recursionLimit) (hq : ∀ h' tk e d, Made s.heap h' e C d x v → R (.ok (.ret (.ref e))) { s with heap := h', toks := tk }) :
    codeAny (model prog w) A (.call (.ref C) ⟨[v], []⟩) R s := by
  obtain ⟨nm, N', qn, bs, bm, hdct, sn, sub, ab, col, dd, k0, k1, k2, k3, k5, hC, hT⟩ := excInit_of X T.ex
  obtain ⟨hp, g, dr, tk, os⟩ := s
  have k : ∀ b o, hp.get? b = some o → ((hp.push (kdv_tup [v])).push (HandSPX.excO C hp.objs.size)).get? b = some o := fun b o e => Heap.get?_push_of_some _ (Heap.get?_push_of_some _ e)
  have hget : ((hp.push (kdv_tup [v])).push (HandSPX.excO C hp.objs.size)).get? (hp.objs.size + 1) = some (HandSPX.excO C hp.objs.size) := by heap_get
  have hnx : K.lookup (hp.objs.size + 1) = none := by
    cases e : K.lookup (hp.objs.size + 1) with
    | none => rfl
    | some o =>
      have z : hp.get? (hp.objs.size + 1) = some o := X _ _ e
      exact absurd (Nat.lt_of_succ_lt (Heap.lt_size z)) (Nat.lt_irrefl _)
  obtain ⟨oI, hoI, hcI⟩ : ∃ oI, hp.get? fI = some oI ∧ oI.cls = .type "function" := by
    obtain ⟨o, ho, hc⟩ := Option.map_eq_some_iff.mp (show (K.lookup fI).map (·.cls) = some (.type "function") from beq_iff_eq.mp T.iF)
    exact ⟨o, X _ _ ho, hc⟩
  refine HandSPX.call_own BT.fb hT hC (looks_findIn X T.iC) (fun self => exc_bind hoI hcI self) (by show [v].length ≤ _; rw [sizeLine_eq]; exact (by decide : 1 ≤ 16777216)) ?_
  refine init_ok (s := ⟨(hp.push (kdv_tup [v])).push (HandSPX.excO C hp.objs.size), g, dr, tk, os⟩) T N BT.sf BT.fb BT.kf (X.keeps k) (hlim.keeps k) (G.at fun o z => k _ _ z) (Bn.at fun o z => k _ _ z) hbb hget hnx ?_ fun h' tk' dx t1 M => ?_
  · show A.depth + 1 < recursionLimit
    exact hroom
  · have old : ∀ b o, hp.get? b = some o → h'.get? b = some o := fun b o e => M.keep b o (Nat.ne_of_lt (Nat.lt_succ_of_lt (Heap.lt_size e))) (k b o e)
    have z : hp.objs.size ≤ dx := by
      have q := M.dbig
      simp only [Heap.size_push] at q
      omega
    exact ⟨rfl, hq h' tk' (hp.objs.size + 1) dx ⟨old, Nat.le_succ _, ⟨_, _, M.obj, rfl, rfl, rfl, rfl⟩, z, M.dne, M.ns⟩⟩
end
end Sup
open PySem PySem.Spec PyProof.Rows L2
set_option autoImplicit false
theorem relO_fld {x : Str} {v : V} {v' : Value} (r : RelV v v') (f : Str) : RelO (List.lookup f [(x, v)]) (if f = x then some v' else none) := by
  by_cases hw : f = x
  · subst hw
    rw [if_pos rfl]
    have q : List.lookup f [(f, v)] = some v := by simp [List.lookup]
    rw [q]
    exact r
  · rw [if_neg hw]
    have qw : (f == x) = false := by simpa using hw
    have q2 : List.lookup f [(x, v)] = none := by simp [List.lookup, qw]
    rw [q2]
    trivial
section
variable {X : Cx} {C fI : Addr} {B newId initId : String} {bmB : List Value} {x nm : Str}
/-- X(e), an own error that keeps it -/
def tMkE (C : Addr) (x : Str) (ta : TA) : L2.St → Hp → XK → Prop := fun σ H Q => ta σ H fun vs H1 => ∃ v, vs = [v] ∧ ∀ d, H1 d = none → Q (.ref C) (some d) (upd H1 d (.xd [(x, v)]))
theorem pmk_e {a : Expr} {ta : TA} {p pos : Pos} {k : Nat} (T : Sup.ETxt X.prog X.K C fI B newId initId bmB x) (N : Sup.FName x) (BT : Sup.BTxt B newId initId bmB) (hr : Room k X.A) (gC : X.mg nm = some (.ref C)) (ha : PA X [a] ta) (hg : Gl X nm)
    (hdb : (nm == ("__debug__" : Str)) = false := by decide) (he : starEach (a :: []) X.env = (false, eval a X.env) :: starEach [] X.env := by rfl) (hpl : (backTo pos (starEach [] X.env)).any (·.1) = false := by rfl) :
    PMk X (.Call (.Name nm p) [a] [] pos) (tMkE C x ta) := by
  intro pins s σ H Q I h
  refine wpAny_Call_Name_kw (ld_glob I hg gC ?_ hdb)
  refine PySem.W.callWith_K (h₀ := X.base) I.ok.mod.kin T.kC (thn (ha.run pos pins s σ H _ I h) fun us s1 hh => ?_) he hpl
  obtain ⟨vs, H1, I1, r1, v, ev, q1⟩ := hh
  subst ev
  refine ⟨I1.kIn, ?_⟩
  cases r1 with
  | cons rv rn =>
    rename_i v' us'
    cases rn
    show wpAny _ _ (call (.ref C) [v']) _ _ _
    have hlim := I1.nolimit
    obtain ⟨mb, hmb, hbb⟩ := I1.mod.blt
    have Gm := I1.mod.glob.keeps I1.bk
    have Bm := hmb.keeps I1.bk
    obtain ⟨hp, g, dr, tk, os⟩ := s1
    refine wpAny_call (Sup.made_ok T N BT I1.kIn hlim Gm Bm hbb (by have := hr.dp; omega) fun h' tk' e d M => ?_)
    show MkP X pins σ Q (.ref e) ⟨h', g, dr, tk', os⟩
    obtain ⟨oe, fv, hoe, hc, hd, hdat, h1⟩ := M.obj
    have hns := M.ns
    obtain ⟨G', g1, g2⟩ := restrict h' fun b => decide (b ≠ e)
    have gk : ∀ b, b ≠ e → G'.get? b = h'.get? b := fun b hb => g1 b (decide_eq_true hb)
    have ge : G'.get? e = none := g2 e (by simp)
    have old : ∀ b o, hp.get? b = some o → G'.get? b = some o := fun b o q => (gk b (Nat.ne_of_lt (Nat.lt_of_lt_of_le (Heap.lt_size q) M.new))).trans (M.keep b o q)
    have ob : ObjOk X.prog X.w (upd H1 d (.xd [(x, v)])) G' d (.xd [(x, v)]) := ⟨_, hns.at (fun o q => (gk d M.dne).trans q), fun f => relO_fld rv f⟩
    have J : L2.Inv X pins σ (upd H1 d (.xd [(x, v)])) ⟨G', g, dr, tk', os⟩ := I1.laid (t' := tk') old M.dbig ob
    refine ⟨e, oe, fv, ⟨G', g, dr, tk', os⟩, _, .ref C, some d, rfl, J, fun b o q => ?_, ge, hoe, ⟨hc, hd⟩, hdat, h1, ?_, rfl, I1.bare, raises_own T.exC T.tyC, q1 d (I1.hok.fresh M.dbig)⟩
    · by_cases hb : b = e
      · have q' : G'.get? b = some o := q
        rw [hb, ge] at q'; cases q'
      · exact (gk b hb).symm.trans q
    · rw [upd_ne (Ne.symm M.dne)]
      exact I1.hok.fresh M.new
end
end Dv

set_option maxHeartbeats 4000000
/-! a try with several clauses, some of which name the error -/
namespace Dv
open PySem PySem.Spec PyProof.Rows L2
set_option autoImplicit false
abbrev Sui := Addr → Value → Option Addr → TS
def goneE (D : Ends) (i : Nat) : Ends where
  nx := fun s h => D.nx (s.set i none) h
  rt := D.rt
  bk := fun s h => D.bk (s.set i none) h
  ct := fun s h => D.ct (s.set i none) h
/-- the clauses' wish: class, the name's slot, suite -/
def wHs (K : PySem.W.Frag) (Wo : WX) (D : Ends) : List (Value × Option Nat × Sui) → WX
  | [] => Wo
  | (c, i, ts) :: r => fun cl dd sg hp => ∃ b, PySem.W.exmOne K cl c = some b ∧
      (b = true → ∀ q, hp q = none → match i with | none => ts q cl dd D sg hp | some j => ts q cl dd (goneE D j) (sg.set j (some (.ref q))) hp) ∧ (b = false → wHs K Wo D r cl dd sg hp)
abbrev SuiOk (X : Cx) (ss : List Stmt) (ts : Sui) : Prop := ∀ (q : Addr) (ob : Obj) (cl : Value) (dd : Option Addr) (pn : List (Addr × Obj)), Zc cl dd ob → (∃ fs, ob.data = .fields fs) → PSs (X.suite q ((q, ob) :: pn)) ss (ts q cl dd)
inductive Hs (X : Cx) : List ExceptHandler → List (Value × Option Nat × Sui) → Prop
  | nil : Hs X [] []
  | one {x : Str} {c : Value} {ts : Sui} {b0 : Stmt} {ss : List Stmt} {np po : Pos} {hs : List ExceptHandler} {l : List (Value × Option Nat × Sui)} (hc : Names X x c) (hu : SuiOk X (b0 :: ss) ts) (r : Hs X hs l) :
      Hs X (.ExceptHandler (some (.Name x np)) none (b0 :: ss) po :: hs) ((c, none, ts) :: l)
  | nam {x n : Str} {i : Nat} {c : Value} {ts : Sui} {b0 : Stmt} {ss : List Stmt} {np po : Pos} {hs : List ExceptHandler} {l : List (Value × Option Nat × Sui)} (hc : Names X x c) (hi : X.N[i]? = some n) (hl : X.env.kindOf n = some .local) (hu : SuiOk X (b0 :: ss) ts) (r : Hs X hs l) :
      Hs X (.ExceptHandler (some (.Name x np)) (some n) (b0 :: ss) po :: hs) ((c, some i, ts) :: l)
section
variable {X : Cx} {body : List Stmt} {h0 : ExceptHandler} {hs : List ExceptHandler} {l : List (Value × Option Nat × Sui)} {pos : Pos} {tb : WX → TS} {Wo : WX}
/-- the clauses are looked at, one after the other -/
theorem hs_run {pins : List (Addr × Obj)} {D : Ends} {q : Addr} {Bs : Heap} {sI : Shared} {h3 : Heap} {s' : Shared} {sg : L2.St} {hp : Hp} {cl : Value} {dd : Option Addr} (ok : X.Ok) (hN : X.N.Nodup) (hst : X.stack = X.env :: X.outer) (hf : X.env.frame = some X.env.locals) (tk : Takes X Wo)
    (J : L2.Inv X pins sg hp sI) (nb : ∀ b o, sI.heap.get? b = some o → b ∉ frs X.stack → Bs.get? b = some o) (na : hp q = none) (os : s'.os = sI.os) (ag : AllBare s'.gens) (up : sI.heap.UpToSlots h3) (nL : q ≠ X.env.locals) (nF : q ∉ X.fs)
    (naI : Bs.get? q = none) (fl : HandSPX.FlyingZ Bs (X.env :: X.outer) q (Zc cl dd) h3) : ∀ {hs : List ExceptHandler} {l : List (Value × Option Nat × Sui)}, Hs X hs l → wHs X.K Wo D l cl dd sg hp →
    wpAny (model X.prog X.w) X.A (handleBy (.ref q) X.env hs) (SP X pins D) X.xe { s' with heap := h3 } := by
  obtain ⟨o3, f3, g3, z3, d3⟩ := fl.there
  have J3 : L2.Inv X pins sg hp { s' with heap := h3 } := J.landed nb fl.1 up os ag
  have T3 := J3.suite g3 d3 na nL nF
  have look : PySem.W.Looks (model X.prog X.w) h3 (typeOf (.ref q)) cl := fun A Q E s k y => wpAny_typeOf_ref (k _ _ g3) (by rw [z3.1]; exact y)
  have name : ∀ {x : Str} {np : Pos} {c : Value} {Q E : Value → Shared → Prop}, Names X x c → Q c { s' with heap := h3 } → wpAny (model X.prog X.w) (X.A.mark (some (.ref q))) (eval (.Name x np) X.env) Q E { s' with heap := h3 } := fun {x np c Q E} hc y => by
    obtain ⟨h1, h2, h | ⟨h, h4, h5⟩⟩ := hc
    · exact ld_glob (X := X.suite q ((q, o3) :: (X.pn ++ pins))) T3 h1 h y h2
    · exact ld_blt (X := X.suite q ((q, o3) :: (X.pn ++ pins))) T3 h1 h h4 y h5 h2
  intro hs l hk
  induction hk with
  | nil =>
    intro w
    refine wpAny_handleBy_nil ?_
    obtain ⟨_, _, _, ob, fs, tb, _, _, ho, _, hd, hx, _⟩ := id fl
    have fin : wpAny (model X.prog X.w) X.A (setFlight (.ref q) X.env.frame) (fun _ s4 => wpAny (model X.prog X.w) X.A (throw (.ref q) : Sem Flow) (SP X pins D) X.xe s4) X.xe { s' with heap := h3 } := by
      rw [hf]
      exact HandSPX.setFlight_upZ fl fun h4 hh up4 => wpAny_throw (tk _ _ ⟨q, Bs, sI, pins, sg, hp, cl, dd, rfl, J, nb, up.trans up4, .inr (.inr (by rw [hst]; exact hh)), na, os, ag, w⟩)
    unfold PySem.passOn
    refine wpAny_bind (wpAny_field ho hd hx ?_)
    rw [if_neg (show ¬ ((Value.ref tb == Value.none) = true) by simp)]
    first
      | exact wpAny_bind (wpAny_pure (wpAny_bind fin))
      | exact wpAny_bind fin
  | @one x c ts b0 ss np po hs2 l2 hc hu r ih =>
    intro w
    obtain ⟨b, w1, w2, w3⟩ := w
    refine wpAny_handleBy_cons (codeAny_handlers_test (name hc ((PySem.W.exm_one (M := model X.prog X.w) J3.kIn look w1).here ?_))) (fun z => nomatch z)
    cases b with
    | false => exact ih (w3 rfl)
    | true =>
      refine codeAny_handlers_suite (HandSPX.lands_againZ fl fun h4 fl4 up4 => ?_)
      obtain ⟨o4, f4, g4, z4, d4⟩ := fl4.there
      have T4 := (J.landed nb fl4.1 (up.trans up4) os ag : L2.Inv X pins sg hp { s' with heap := h4 }).suite g4 d4 na nL nF
      refine wpAny_mono ((hu q o4 cl dd (X.pn ++ pins) z4 ⟨_, d4⟩).run [] _ _ hp _ T4 (w2 rfl q na)) (fun f s6 y => ?_) fun _ _ z => z.elim
      cases f with
      | ret u =>
        obtain ⟨v6, g6, h6, T6, r6, y6⟩ := y
        exact ⟨v6, g6, h6, T6.unsuite ok, r6, y6⟩
      | next => exact let ⟨g6, h6, T6, y6⟩ := y; ⟨g6, h6, T6.unsuite ok, y6⟩
      | brk => exact let ⟨g6, h6, T6, y6⟩ := y; ⟨g6, h6, T6.unsuite ok, y6⟩
      | cont => exact let ⟨g6, h6, T6, y6⟩ := y; ⟨g6, h6, T6.unsuite ok, y6⟩
  | @nam x n i c ts b0 ss np po hs2 l2 hc hi hl hu r ih =>
    intro w
    obtain ⟨b, w1, w2, w3⟩ := w
    refine wpAny_handleBy_cons (codeAny_handlers_test (name hc ((PySem.W.exm_one (M := model X.prog X.w) J3.kIn look w1).here ?_))) (fun z => nomatch z)
    cases b with
    | false => exact ih (w3 rfl)
    | true =>
      refine codeAny_handlers_suite_as (HandSPX.lands_againZ fl fun h4 fl4 up4 => ?_)
      obtain ⟨o4, f4, g4, z4, d4⟩ := fl4.there
      have T4 := (J.landed nb fl4.1 (up.trans up4) os ag : L2.Inv X pins sg hp { s' with heap := h4 }).suite g4 d4 na nL nF
      refine store_ok (X := X.suite q ((q, o4) :: (X.pn ++ pins))) (v := .ref q) T4 hN hi (.inl hl) rfl (fun s5 T5 => ?_) (.inr hl)
      have leave : ∀ {s6 : Shared} {g6 : L2.St} {h6 : Hp} {Q : Shared → Prop}, L2.Inv (X.suite q ((q, o4) :: (X.pn ++ pins))) [] g6 h6 s6 → (∀ s7, L2.Inv X pins (g6.set i none) h6 s7 → Q s7) →
          wpAny (model X.prog X.w) X.A (do bindName X.env n .none; unbindBehindTheSuite X.env n po) (fun _ s7 => Q s7) X.xe s6 := fun T6 y => gone_ok (T6.unsuite ok) hN hi hl y
      refine wpAny_mono ((hu q o4 cl dd (X.pn ++ pins) z4 ⟨_, d4⟩).run [] s5 _ hp _ T5 (w2 rfl q na)) (fun f s6 y => ?_) fun _ _ z => z.elim
      cases f with
      | ret u =>
        obtain ⟨v6, g6, h6, T6, r6, y6⟩ := y
        exact leave T6 fun s7 J7 => ⟨v6, _, h6, J7, r6, y6⟩
      | next => exact let ⟨g6, h6, T6, y6⟩ := y; leave T6 fun s7 J7 => ⟨_, h6, J7, y6⟩
      | brk => exact let ⟨g6, h6, T6, y6⟩ := y; leave T6 fun s7 J7 => ⟨_, h6, J7, y6⟩
      | cont => exact let ⟨g6, h6, T6, y6⟩ := y; leave T6 fun s7 J7 => ⟨_, h6, J7, y6⟩
theorem ps_try_hs (hN : X.N.Nodup) (hst : X.stack = X.env :: X.outer) (hf : X.env.frame = some X.env.locals) (tk : Takes X Wo)
    (hb : ∀ (W : WX) (pn : List (Addr × Obj)) (xe : Value → Shared → Prop), Takes (X.tr pn xe) W → PSs (X.tr pn xe) body (tb W)) (hh : Hs X (h0 :: hs) l) :
    PS X (.Try body (h0 :: hs) [] [] pos) (fun D sg hp => tb (wHs X.K Wo D l) D sg hp) := by
  refine ⟨fun pins s sg hp D I y => ?_⟩
  have ok := I.ok
  have frm : X.A.frames = some (X.env :: X.outer) := by rw [ok.frames, hst]
  refine wpAny_Try_except (wpAny_mono ((hb (wHs X.K Wo D l) (X.pn ++ pins) (fun e s1 => wpAny (model X.prog X.w) X.A (noteFrame e X.env) (fun _ s2 => wpAny (model X.prog X.w) X.A (setFlight e none) (fun _ s3 =>
    wpAny (model X.prog X.w) X.A (handleBy e X.env (h0 :: hs)) (SP X pins D) X.xe s3) X.xe s2) X.xe s1) fun u s' xx => ?_).run [] s sg hp D (I.toTry _) y) (fun f s1 z => ?_) fun _ _ z => z)
  · obtain ⟨q, Bs, sI, pins', sg', hp', cl, dd, rfl, J', nb, up, sky, na, os, ag, w⟩ := xx
    have J : L2.Inv X pins sg' hp' sI := J'.ofTry ok
    refine Sky.land Zc.steady frm hf (show Sky Bs (X.env :: X.outer) q (Zc cl dd) X.env.locals s'.heap by rw [← hst]; exact sky) fun h3 fl up3 => ?_
    obtain ⟨o3, f3, g3, z3, d3⟩ := fl.there
    have nfr : q ∉ frs (X.env :: X.outer) := fun hm => by
      obtain ⟨_, o', e', hnf⟩ := fl.2.2.1.mem hm
      rw [g3] at e'; cases e'
      exact hnf _ d3
    have nL : q ≠ X.env.locals := fun z => nfr (List.mem_filterMap.mpr ⟨X.env, List.mem_cons_self, by rw [hf, z]⟩)
    have nF : q ∉ X.fs := fun hm => by
      obtain ⟨e, he, z⟩ := List.mem_filterMap.mp hm
      exact nfr (List.mem_filterMap.mpr ⟨e, List.mem_cons_of_mem _ he, z⟩)
    exact hs_run ok hN hst hf tk J nb na os ag (up.trans up3) nL nF fl.2.1 fl hh w
  · cases f with
    | ret u =>
      obtain ⟨v, g1, h1, J1, r1, y1⟩ := z
      exact ⟨v, g1, h1, J1.ofTry ok, r1, y1⟩
    | next => exact let ⟨g1, h1, J1, y1⟩ := z; wpAny_execs_nil ⟨g1, h1, J1.ofTry ok, y1⟩
    | brk => exact let ⟨g1, h1, J1, y1⟩ := z; ⟨g1, h1, J1.ofTry ok, y1⟩
    | cont => exact let ⟨g1, h1, J1, y1⟩ := z; ⟨g1, h1, J1.ofTry ok, y1⟩
end
end Dv

set_option maxHeartbeats 4000000
/-! raise, try over data -/
namespace Dv
open PySem PySem.Spec PyProof.Rows L2
set_option autoImplicit false
/-- the error classes by numbers: is the one below the other -/
def subC (c k : Nat) : Bool := c == k || (k == 0 && decide (c ≤ 9))
/-- the classes by names -/
def ecn : Nat → Str
  | 0 => "MeetError" | 1 => "InvalidTable" | 2 => "InvalidReport" | 3 => "InvalidVisits" | 4 => "InvalidLot" | 5 => "InvalidOrder" | 6 => "InvalidClaim" | 7 => "InvalidText" | 8 => "InvalidOperation"
  | 9 => "ParseError" | 10 => "InvalidNumber" | 11 => "UnknownName" | 12 => "NothingToUndo" | 13 => "TooMany" | _ => "Refused"
def mRaise0 (c : Nat) : MS := fun ρ S => .exc c [] ρ S
def mRaise1 (c : Nat) (m : ME) : MS := fun ρ S => bindE (m ρ S) ρ fun d S1 => if plain d then .exc c [cool d] ρ S1 else .bad
/-- what the module says of an error class without an own __init__ -/
structure XCls (G : Gd) (c : Nat) : Prop where
  g : G.mg (ecn c) = some (.ref (G.cad c))
  ex : PySem.W.excIn G.K (G.cad c) He.veBase "ValueError.__new__" = true
  kp : PySem.W.keepIn G.K (.ref (G.cad c)) = true
  b : PySem.W.subIn G.K (.ref (G.cad c)) (.type "BaseException") = some true
  t : PySem.W.typeIn G.K (.ref (G.cad c)) = some (.type "type")
/-- .. of one that keeps what it takes -/
structure XClsF (G : Gd) (c : Nat) : Prop where
  g : G.mg (ecn c) = some (.ref (G.cad c))
  t : ∃ (fI : Addr) (B newId initId : String) (bmB : List Value), Sup.ETxt G.P G.K (G.cad c) fI B newId initId bmB (cfn c) ∧ Sup.BTxt B newId initId bmB
  n : Sup.FName (cfn c)
section
variable {s : Sit} {G : Gd} {k c : Nat} {a : Expr} {m : ME} {nm msg : Str} {j : Nat} {p p2 pos pos2 : Pos}
theorem s_raise0 (g : Gs G k s) (hx : XCls G c) (hn : nm = ecn c) (hg : Gl s.X nm) (hdb : (nm == ("__debug__" : Str)) = false := by decide) : SS s (.Raise (some (.Call (.Name nm p) [.Constant (.str msg) j p2] [] pos)) none pos2) (mRaise0 c) := by
  subst hn
  refine PS.weak (ps_raise g.calm g.takes (pmk_own (C := G.cad c) PySem.F.excBase_ValueError (by rw [g.K]; exact hx.ex) (by rw [g.mg]; exact hx.g) (by rw [g.K]; exact hx.kp) (raises_own (by rw [g.K]; exact hx.b) (by rw [g.K]; exact hx.t)) hg hdb)) fun D σ H q => ?_
  obtain ⟨ρ, S, A, cn, q⟩ := q
  have := q none σ H A .refl cn (.inl rfl)
  rw [g.cad] at this
  exact this
theorem s_raise1 (g : Gs G k s) (hx : XClsF G c) (hn : nm = ecn c) (hg : Gl s.X nm) (ha : SE s a m) (hdb : (nm == ("__debug__" : Str)) = false := by decide)
    (hs : starEach (a :: []) s.X.env = (false, eval a s.X.env) :: starEach [] s.X.env := by rfl) (hpl : (backTo pos (starEach [] s.X.env)).any (·.1) = false := by rfl) :
    SS s (.Raise (some (.Call (.Name nm p) [a] [] pos)) none pos2) (mRaise1 c m) := by
  subst hn
  obtain ⟨fI, B, newId, initId, bmB, T, BT⟩ := hx.t
  refine PS.weak (ps_raise g.calm g.takes (pmk_e (C := G.cad c) (fI := fI) (x := cfn c) (by rw [g.P, g.K]; exact T) hx.n BT g.room (by rw [g.mg]; exact hx.g) (sa_cons ha sa_nil hs) hg hdb hs hpl)) fun D σ H q => ?_
  obtain ⟨ρ, S, A, cn, q⟩ := q
  unfold mRaise1 at q
  show tDa s (aCons m aNil) σ H _
  refine ⟨ρ, S, A, cn, ?_⟩
  show AOut s A S H σ _ (aCons m aNil ρ S)
  unfold aCons aNil
  cases e : m ρ S with
  | exc x fs S1 => rw [e] at q; intro dd H1 p1 z; exact q dd σ H1 A (p1.pss cn.cells) (cn.step p1) z
  | bad => rw [e] at q; exact q
  | ok d S1 =>
    rw [e] at q
    dsimp only [bindE_ok] at q
    intro vs H1 p1 r1
    split at q
    case isFalse => exact q.elim
    rename_i hp
    obtain ⟨v, rfl, rv⟩ := r1.one
    have cn1 := cn.step p1
    refine ⟨v, rfl, fun x nx => ?_⟩
    have sm : Same H1 (upd H1 x (.xd [(cfn c, v)])) := same_upd nx
    have p2 : Pst s.X.K A S1 H1 S1 (upd H1 x (.xd [(cfn c, v)])) := .of_same cn1.cells sm
    have := q (some x) σ _ A ((p1.trans p2).pss cn.cells) (cn1.step p2) (.inr ⟨x, v, _, rfl, rfl, upd_same, ((rv.plain hp).step cn1.cells p2).cool⟩)
    rw [g.cad] at this
    exact this
end
/-! ### try -/
abbrev HD := Nat × Option Nat × MS
def noErr : D → Bool
  | .err _ _ => false
  | _ => true
def retOnly : ResS → ResS
  | .rt d S => if noErr d then .rt d S else .bad
  | _ => .bad
def pick (c : Nat) (fs : List D) (ρ : Rho) (S : Store) : List HD → ResS
  | [] => .exc c fs ρ S
  | (k, i, m) :: r => if subC c k then retOnly (match i with | none => m ρ S | some j => m (ρ.set j (some (.err c fs))) S) else pick c fs ρ S r
def mTry (cs : List Nat) (mb : MS) (hl : List HD) : MS := fun ρ S => match mb ρ S with
  | .exc c fs ρ1 S1 => if cs.contains c then pick c fs ρ1 S1 hl else .bad
  | r => r
def sitTr (s : Sit) (W : WX) (pn : List (Addr × Obj)) (xe : Value → Shared → Prop) : Sit := { s with X := s.X.tr pn xe, W := W }
def Zs (s : Sit) (q : Addr) (cl : Value) (dd : Option Addr) : ZT := fun v c d => v = .ref q ∧ Value.ref (s.cad c) = cl ∧ d = dd
def sitSu (s : Sit) (q : Addr) (cl : Value) (dd : Option Addr) (pn : List (Addr × Obj)) : Sit := { s with X := s.X.suite q pn, W := fun _ _ _ _ => False, Z := Zs s q cl dd }
def sitS0 (s : Sit) (q : Addr) (cl : Value) (dd : Option Addr) : Sit := { s with W := fun _ _ _ _ => False, Z := Zs s q cl dd }
section
variable {s s' : Sit}
theorem tDs_conv (hK : s'.X.K = s.X.K) (hZ : s'.Z = s.Z) (hb : s'.base = s.base) (hW : ∀ c d σ H, s.W c d σ H → False) {m : MS} {D : Ends} {σ : L2.St} {H : Hp} (q : tDs s m D σ H) : tDs s' m D σ H := by
  obtain ⟨ρ, S, A, c, q⟩ := q
  refine ⟨ρ, S, A, c.conv hK hZ hb, ?_⟩
  cases e : m ρ S with
  | nx ρ1 S1 => rw [e] at q; intro σ1 H1 A1 p c1; exact q σ1 H1 A1 (hb ▸ p) (c1.conv hK.symm hZ.symm hb.symm)
  | bk ρ1 S1 => rw [e] at q; intro σ1 H1 A1 p c1; exact q σ1 H1 A1 (hb ▸ p) (c1.conv hK.symm hZ.symm hb.symm)
  | ct ρ1 S1 => rw [e] at q; intro σ1 H1 A1 p c1; exact q σ1 H1 A1 (hb ▸ p) (c1.conv hK.symm hZ.symm hb.symm)
  | rt d S1 => rw [e] at q; intro v H1 A1 p c1 r f; rw [hb] at p; rw [hK] at c1 f; rw [hK, hZ] at r; exact q v H1 A1 p c1 r f
  | exc x fs ρ1 S1 => rw [e] at q; intro dd σ1 H1 A1 p c1 z; rw [hK] at z; exact (hW _ _ _ _ (q dd σ1 H1 A1 (hb ▸ p) (c1.conv hK.symm hZ.symm hb.symm) z)).elim
  | bad => rw [e] at q; exact q
inductive HsD (s : Sit) : List ExceptHandler → List HD → Prop
  | nil : HsD s [] []
  | one {x : Str} {k : Nat} {m : MS} {b0 : Stmt} {ss : List Stmt} {np po : Pos} {hs : List ExceptHandler} {l : List HD} (hc : Names s.X x (.ref (s.cad k)))
      (hu : ∀ (q : Addr) (ob : Obj) (cl : Value) (dd : Option Addr) (pn : List (Addr × Obj)), Zc cl dd ob → (∃ fs, ob.data = .fields fs) → SSs (sitSu s q cl dd ((q, ob) :: pn)) (b0 :: ss) m) (r : HsD s hs l) :
      HsD s (.ExceptHandler (some (.Name x np)) none (b0 :: ss) po :: hs) ((k, none, m) :: l)
  | nam {x n : Str} {i k : Nat} {m : MS} {b0 : Stmt} {ss : List Stmt} {np po : Pos} {hs : List ExceptHandler} {l : List HD} (hc : Names s.X x (.ref (s.cad k))) (hi : s.X.N[i]? = some n) (hl : s.X.env.kindOf n = some .local)
      (hu : ∀ (q : Addr) (ob : Obj) (cl : Value) (dd : Option Addr) (pn : List (Addr × Obj)), Zc cl dd ob → (∃ fs, ob.data = .fields fs) → SSs (sitSu s q cl dd ((q, ob) :: pn)) (b0 :: ss) m) (r : HsD s hs l) :
      HsD s (.ExceptHandler (some (.Name x np)) (some n) (b0 :: ss) po :: hs) ((k, some i, m) :: l)
def hsL (s : Sit) (l : List HD) : List (Value × Option Nat × Sui) := l.map fun h => (.ref (s.cad h.1), h.2.1, fun q cl dd => tDs (sitS0 s q cl dd) h.2.2)
theorem HsD.hs {hs : List ExceptHandler} {l : List HD} (h : HsD s hs l) : Hs s.X hs (hsL s l) := by
  induction h with
  | nil => exact .nil
  | one hc hu _ ih => exact .one hc (fun q ob cl dd pn z f => PSs.weak (hu q ob cl dd pn z f) fun D σ H q' => tDs_conv (s := sitS0 s q cl dd) (s' := sitSu s q cl dd ((q, ob) :: pn)) rfl rfl rfl (fun _ _ _ _ z => z) q') ih
  | nam hc hi hl hu _ ih => exact .nam hc hi hl (fun q ob cl dd pn z f => PSs.weak (hu q ob cl dd pn z f) fun D σ H q' => tDs_conv (s := sitS0 s q cl dd) (s' := sitSu s q cl dd ((q, ob) :: pn)) rfl rfl rfl (fun _ _ _ _ z => z) q') ih
theorem RpS.ofZ {K : PySem.W.Frag} {Z Z' : ZT} {A : Wy} {S : Store} {H : Hp} {v : V} {d : D} (r : RpS K Z A S H v d) (n : noErr d = true) : RpS K Z' A S H v d := by
  rcases r with r | r | ⟨_, _, _, z, _⟩
  · exact .inl r
  · exact .inr (.inl r)
  · subst z; cases n
/-- behind a suite that returns -/
theorem ret_out {A A1 : Wy} {S S1 : Store} {H H1 : Hp} {En En' : Ends} {q : Addr} {cl : Value} {dd : Option Addr} {r : ResS} (hD : En'.rt = En.rt) (p : Pss s.base A S H A1 S1 H1) (h : SOut s A S H En (retOnly r)) : SOut (sitS0 s q cl dd) A1 S1 H1 En' r := by
  cases r with
  | rt d S2 =>
    intro v H2 A2 p2 c2 r2 f2
    have h : SOut s A S H En (if noErr d = true then .rt d S2 else .bad) := h
    split at h
    case isFalse => exact h.elim
    rename_i hn
    rw [hD]
    exact h v H2 A2 (p.trans p2) c2 (r2.ofZ hn) (f2.later p.free)
  | nx _ _ => exact h.elim
  | bk _ _ => exact h.elim
  | ct _ _ => exact h.elim
  | exc _ _ _ _ => exact h.elim
  | bad => exact h.elim
theorem Cn.err {ρ : Rho} {S : Store} {A : Wy} {σ : L2.St} {H : Hp} {c : Nat} {fs : List D} {dd : Option Addr} {q : Addr} {i : Nat} (cn : Cn s ρ S A σ H) (nz : ∀ (i : Nat) (d : D), ρ[i]? = some (some d) → noErr d = true) (ex : ExAt s.X.K H (Own A S) c dd fs) :
    Cn (sitS0 s q (.ref (s.cad c)) dd) (ρ.set i (some (.err c fs))) S A (σ.set i (some (.ref q))) H := by
  refine ⟨fun j d h => ?_, cn.cells, fun j n h => ?_, by simp [cn.len], by rw [List.length_set]; exact cn.room⟩
  · rw [List.getElem?_set] at h
    split at h
    · rename_i hij
      subst hij
      split at h
      · rename_i hl
        cases h
        exact ⟨_, List.getElem?_set_self (by rw [cn.len]; exact hl), .inr (.inr ⟨c, fs, dd, rfl, ⟨rfl, rfl, rfl⟩, ex⟩)⟩
      · cases h
    · rename_i hij
      obtain ⟨v, h1, h2⟩ := cn.slot j d h
      exact ⟨v, by rw [List.getElem?_set_ne hij]; exact h1, h2.ofZ (nz j d h)⟩
  · rw [List.getElem?_set] at h
    split at h
    · split at h <;> cases h
    · exact cn.disc j n h
theorem Cn.sui {ρ : Rho} {S : Store} {A : Wy} {σ : L2.St} {H : Hp} {cl : Value} {dd : Option Addr} {q : Addr} (cn : Cn s ρ S A σ H) (nz : ∀ (i : Nat) (d : D), ρ[i]? = some (some d) → noErr d = true) : Cn (sitS0 s q cl dd) ρ S A σ H :=
  ⟨fun j d h => let ⟨v, h1, h2⟩ := cn.slot j d h; ⟨v, h1, h2.ofZ (nz j d h)⟩, cn.cells, cn.disc, cn.len, cn.room⟩
theorem pick_ok {A A1 : Wy} {S S1 : Store} {H H1 : Hp} {En : Ends} {ρ1 : Rho} {σ1 : L2.St} {c : Nat} {fs : List D} {dd : Option Addr} (hz : ∀ v c dd, ¬ s.Z v c dd) (p : Pss s.base A S H A1 S1 H1) (cn : Cn s ρ1 S1 A1 σ1 H1) (ex : ExAt s.X.K H1 (Own A1 S1) c dd fs) : ∀ (l : List HD), (∀ h ∈ l, PySem.W.exmOne s.X.K (.ref (s.cad c)) (.ref (s.cad h.1)) = some (subC c h.1)) →
    SOut s A S H En (pick c fs ρ1 S1 l) → wHs s.X.K s.W En (hsL s l) (.ref (s.cad c)) dd σ1 H1
  | [], _, q => q dd σ1 H1 A1 p cn ex
  | (k, i, m) :: l, hm, q => by
    have nz : ∀ (i : Nat) (d : D), ρ1[i]? = some (some d) → noErr d = true := fun i d h => by
      obtain ⟨v, _, r⟩ := cn.slot i d h
      rcases r with ⟨_, _, z, _⟩ | r | ⟨_, _, _, _, z, _⟩
      · subst z; rfl
      · cases r <;> rfl
      · exact absurd z (hz _ _ _)
    refine ⟨subC c k, hm (k, i, m) List.mem_cons_self, fun hb a ha => ?_, fun hb => ?_⟩
    · unfold pick at q
      rw [if_pos hb] at q
      cases i with
      | none => exact ⟨ρ1, S1, A1, cn.sui nz, ret_out rfl p q⟩
      | some j => exact ⟨_, S1, A1, cn.err nz ex, ret_out (En := En) (En' := goneE En j) rfl p q⟩
    · unfold pick at q
      rw [if_neg (by rw [hb]; decide)] at q
      exact pick_ok hz p cn ex l (fun h hl => hm h (List.mem_cons_of_mem _ hl)) q
theorem s_try {G : Gd} {k : Nat} {cs : List Nat} {body : List Stmt} {mb : MS} {h0 : ExceptHandler} {hs : List ExceptHandler} {l : List HD} {pos : Pos} (g : Gs G k s) (hN : s.X.N.Nodup) (hst : s.X.stack = s.X.env :: s.X.outer) (hf : s.X.env.frame = some s.X.env.locals) (hz : ∀ v c dd, ¬ s.Z v c dd)
    (hm : ∀ c ∈ cs, ∀ h ∈ l, PySem.W.exmOne G.K (.ref (G.cad c)) (.ref (G.cad h.1)) = some (subC c h.1))
    (hb : ∀ (W : WX) (pn : List (Addr × Obj)) (xe : Value → Shared → Prop), Takes (s.X.tr pn xe) W → SSs (sitTr s W pn xe) body mb) (hh : HsD s (h0 :: hs) l) : SS s (.Try body (h0 :: hs) [] [] pos) (mTry cs mb l) := by
  refine PS.weak (ps_try_hs (tb := fun W => tDs { s with W := W } mb) hN hst hf g.takes (fun W pn xe tk => PSs.weak (hb W pn xe tk) fun D σ H q => ?_) hh.hs) fun D σ H q => ?_
  · obtain ⟨ρ, S, A, c, q⟩ := q
    refine ⟨ρ, S, A, ⟨c.slot, c.cells, c.disc, c.len, c.room⟩, ?_⟩
    cases e : mb ρ S with
    | nx ρ1 S1 => rw [e] at q; intro σ1 H1 A1 p c1; exact q σ1 H1 A1 p ⟨c1.slot, c1.cells, c1.disc, c1.len, c1.room⟩
    | bk ρ1 S1 => rw [e] at q; intro σ1 H1 A1 p c1; exact q σ1 H1 A1 p ⟨c1.slot, c1.cells, c1.disc, c1.len, c1.room⟩
    | ct ρ1 S1 => rw [e] at q; intro σ1 H1 A1 p c1; exact q σ1 H1 A1 p ⟨c1.slot, c1.cells, c1.disc, c1.len, c1.room⟩
    | rt d S1 => rw [e] at q; exact q
    | exc x fs ρ1 S1 => rw [e] at q; intro dd σ1 H1 A1 p c1 z; exact q dd σ1 H1 A1 p ⟨c1.slot, c1.cells, c1.disc, c1.len, c1.room⟩ z
    | bad => rw [e] at q; exact q
  · obtain ⟨ρ, S, A, c, q⟩ := q
    refine ⟨ρ, S, A, ⟨c.slot, c.cells, c.disc, c.len, c.room⟩, ?_⟩
    unfold mTry at q
    cases e : mb ρ S with
    | nx ρ1 S1 => rw [e] at q; intro σ1 H1 A1 p c1; exact q σ1 H1 A1 p ⟨c1.slot, c1.cells, c1.disc, c1.len, c1.room⟩
    | bk ρ1 S1 => rw [e] at q; intro σ1 H1 A1 p c1; exact q σ1 H1 A1 p ⟨c1.slot, c1.cells, c1.disc, c1.len, c1.room⟩
    | ct ρ1 S1 => rw [e] at q; intro σ1 H1 A1 p c1; exact q σ1 H1 A1 p ⟨c1.slot, c1.cells, c1.disc, c1.len, c1.room⟩
    | rt d S1 => rw [e] at q; exact q
    | bad => rw [e] at q; exact q
    | exc x fs ρ1 S1 =>
      rw [e] at q
      dsimp only at q
      split at q
      case isFalse => exact q.elim
      rename_i hx
      intro dd σ1 H1 A1 p c1 z
      refine pick_ok (s := s) hz p ⟨c1.slot, c1.cells, c1.disc, c1.len, c1.room⟩ z l (fun h hl => ?_) q
      rw [g.K, g.cad]
      exact hm x (by simpa using hx) h hl
end
end Dv

set_option maxHeartbeats 4000000
/-! a lambda handed to a def: all but one table is kept -/
namespace Dv
open PySem PySem.Spec PyProof.Rows L2
set_option autoImplicit false
/-- all but P stays -/
def ExtP (P : Addr) (H H' : Hp) : Prop := ∀ b o, H b = some o → b ≠ P → H' b = some o
section
variable {X : Cx} {pins : List (Addr × Obj)} {sg : L2.St} {hp : Hp} {s : Shared}
theorem lam_new {c P : Addr} {params : Arguments} {body : Expr} {scope : Scope} {pos : Pos} {E Q : Value → Shared → Prop} (I : L2.Inv X pins sg hp s) (TB : LamX.TabB X.base X.mg c P) (hcode : X.env.code = .ref c)
    (hT : LamX.TabS hp P (X.env.qual ++ "<lambda>")) (hdef : defaultsOf params X.env = ([], [])) (hfree : ∀ y ∈ scope.names, y.2 = .free → ∃ c, X.env.cells.lookup y.1 = some c)
    (go : ∀ (f c' : Addr) (pm ctv : Value) (h1 : Hp) (s' : Shared), L2.Inv X pins sg h1 s' → ExtP P hp h1 → LamX.TabS h1 P (X.env.qual ++ "<lambda>") →
      s'.heap.get? f = some (PySem.W.kla_obj "<lambda>" (X.env.qual ++ "<lambda>") params body scope (cloFrom X.env.cells scope.names []) pm c' ctv) → h1 f = none → f ∉ frs X.stack → h1 c' = some (LamX.CodeO c' (X.env.qual ++ "<lambda>")) → Q (.ref f) s') :
    wpAny (model X.prog X.w) X.A (eval (.Lambda params body scope pos) X.env) Q E s := by
  obtain ⟨ps, tP, ht, ha⟩ := hT
  have gP : s.heap.get? P = some { cls := .none, data := .fields ps } := I.hok P _ tP
  have away : ∀ f, s.heap.objs.size ≤ f → f ∉ frs X.stack := fun f hf z => by
    rcases List.mem_cons.mp (I.stkSub _ z) with e | e
    · exact Nat.lt_irrefl _ (Nat.lt_of_lt_of_le (show f < s.heap.objs.size by rw [e]; exact I.lt) hf)
    · exact I.nofs hf e
  refine PySem.W.kla_eval hdef ?_
  cases hc : codeAmong pos ps.toList with
  | some cv =>
    obtain ⟨c', rfl, hco⟩ := ha pos cv hc
    refine PySem.W.kla_makeFunctionHit (mg := X.mg) (c := c) (P := P) (ps := ps) (closure_ok hfree) I.ok.glob (I.mod.glob.keeps I.bk) hcode (TB.code.keeps I.bk) gP ht hc (TB.bm.keeps I.bk) fun ctv h' tk hx hsz => ?_
    exact go h'.objs.size c' ((X.mg "__name__").getD .none) ctv hp _ (I.kept fun b o e => Heap.get?_push_of_some _ (hx b o e)) (fun _ _ e _ => e) ⟨ps, tP, ht, ha⟩ (Heap.get?_push_size _ rfl) (I.hok.fresh hsz) (away _ hsz) hco
  | none =>
    refine PySem.W.kla_makeFunction (mg := X.mg) (c := c) (P := P) (ps := ps) (closure_ok hfree) I.ok.glob (I.mod.glob.keeps I.bk) hcode (TB.code.keeps I.bk) gP ht hc TB.gP (TB.bm.keeps I.bk) fun c' ctv h' tk hx hge hlt hrec htb => ?_
    obtain ⟨c2, oc, vs, t, e2, hoc, hd, hv⟩ := hrec
    cases e2
    have nC : hp c' = none := I.hok.fresh hge
    have I1 := LamX.inv_table (t' := tk) (more := #[rawInt pos.line, rawInt pos.col, .ref c']) (h' := h'.push (PySem.W.kla_obj "<lambda>" (X.env.qual ++ "<lambda>") params body scope (cloFrom X.env.cells scope.names []) ((X.mg "__name__").getD .none) c' ctv)) I tP
      (fun b o hb e => Heap.get?_push_of_some _ (hx b o hb e)) (Heap.get?_push_of_some _ htb) hge ⟨oc, vs, t, Heap.get?_push_of_some _ hoc, hd, hv⟩
    have kp : ExtP P hp (upd (upd hp P (.tbl (ps ++ #[rawInt pos.line, rawInt pos.col, .ref c']))) c' (LamX.CodeO c' (X.env.qual ++ "<lambda>"))) := fun b o e n => by
      rw [upd_ne (ne_of_none e nC), upd_ne n]; exact e
    have big : s.heap.objs.size ≤ h'.objs.size := Nat.le_trans hge (Nat.le_of_lt hlt)
    have lst : (ps ++ #[rawInt pos.line, rawInt pos.col, Value.ref c']).toList = ps.toList ++ [rawInt pos.line, rawInt pos.col, .ref c'] := by simp
    refine go h'.objs.size c' ((X.mg "__name__").getD .none) ctv _ _ I1 kp ⟨_, by rw [upd_ne (ne_of_none tP nC), upd_same], by rw [lst]; exact PySem.TriplesOk_snoc _ _ _ _ ht, fun p' cv hcv => ?_⟩ (Heap.get?_push_size _ rfl) ?_ (away _ big) upd_same
    · rw [lst] at hcv
      rcases LamX.among_app _ ht hcv with z | z
      · obtain ⟨c0, e1, e2⟩ := ha p' cv z
        exact ⟨c0, e1, kp _ _ e2 fun y => by rw [y, tP] at e2; cases e2⟩
      · exact ⟨c', z, upd_same⟩
    · have n2 : h'.objs.size ≠ P := Nat.ne_of_gt (Nat.lt_of_lt_of_le (Heap.lt_size gP) big)
      rw [upd_ne (Nat.ne_of_gt hlt), upd_ne n2]
      exact I.hok.fresh big
/-- the def that got the lambda calls it, at the slots sz -/
theorem lam_act {Em : XK} {Ng : List Str} {qg : Str} {sc : Scope} {g f c' : Addr} {cdg pm ctv : Value} {params : Arguments} {body : Expr} {scope : Scope} {k : Nat} {a : Str} {pn : List (Addr × Obj)} {xe : Value → Shared → Prop} {W : WX} {tb : XK → TE} {p1 p2 : Pos}
    (I : L2.Inv X pins sg hp s) (L : LamX.LamS X.env.scope scope) (hf : s.heap.get? f = some (PySem.W.kla_obj "<lambda>" (X.env.qual ++ "<lambda>") params body scope (cloFrom X.env.cells scope.names []) pm c' ctv)) (hfn : hp f = none) (hfr : f ∉ frs X.stack)
    (hbind : bindArgs (PySem.W.kla_fn "<lambda>" (X.env.qual ++ "<lambda>") params body scope (cloFrom X.env.cells scope.names []) pm (.ref c') ctv) ⟨[], []⟩ = pure [])
    (tk : Takes ((cxOf (L2.CX X.prog X.w) X.prog X.w X.K X.mg X.base Ng qg sc g cdg X.A X.stack s hp Em).tr pn xe) W) (hr : Room (k + 1) (X.A.deeper (envOfC qg sc s.heap.objs.size g cdg)))
    (hgu : X.A.guards = some []) (hbody : ∀ (A : Around) (outer : List Env) (s : Shared) (H : Hp) (E : XK), Room k (A.deeper (LamX.lamEnv X scope s.heap.objs.size f c')) → A.guards = some [] → PE (LamX.lamCx X A outer s H E scope f c') body (tb E))
    (hN : Ng[0]? = some a) (hv : Vis sc a) (hd : (a == ("__debug__" : Str)) = false := by decide) (hcd : (a == ("__classdict__" : Str)) = false := by decide) :
    PE ((cxOf (L2.CX X.prog X.w) X.prog X.w X.K X.mg X.base Ng qg sc g cdg X.A X.stack s hp Em).tr pn xe) (.Call (.Name a p1) [] [] p2)
      (fun sz hz Q => sz[0]? = some (some (.ref f)) ∧ hz c' = some (LamX.CodeO c' (X.env.qual ++ "<lambda>")) ∧ tb (fun cl d h' => W cl d sz h') sg hz Q) := by
  refine ⟨fun pz shz sz hz Q IZ h => ?_⟩
  obtain ⟨h1, h2, h3⟩ := h
  refine wpAny_Call_Name_kw (thn ((pe_var (pos := p1) (i := 0) hN hv hd hcd).run pz shz sz hz (fun v H1 => v = .ref f ∧ H1 = hz) IZ ⟨.ref f, h1, rfl, rfl⟩) fun u s1 ⟨v, H1, I1, r1, q1⟩ => ?_)
  obtain ⟨rfl, rfl⟩ := q1
  obtain rfl : u = Value.ref f := r1
  have of1 := I1.base.keep f _ hf hfn hfr (fun z => nomatch (show f ∈ ([] : List Addr) from z))
  refine PySem.W.callWith_F0 ⟨_, _, _, _, of1⟩ ?_
  obtain ⟨⟨oc, vs, t, hoc, hdc, hvc⟩, _, _⟩ := I1.hok c' _ h2
  have rc : codeAny (model X.prog X.w) (X.A.deeper (envOfC qg sc s.heap.objs.size g cdg)) (.call (.ref f) ⟨[], []⟩) (CR (L2.CX X.prog X.w) (envOfC qg sc s.heap.objs.size g cdg :: X.stack) X.prog X.w H1 s1 Q (fun cl d h' => W cl d sz h')) s1 := by
    refine PySem.W.kla_callFunE hr.depth of1 rfl L.co L.gen rfl ⟨c', oc, vs, t, rfl, hoc, hdc, hvc⟩ ?_
    rw [hbind]
    refine wpAny_pure (wpAny_newFunctionEnv (fun y hy => (L.own y hy).2) (fun y hy => absurd hy (by simp)) (fun h₁ hns hsb => ⟨I1.nolimit.fresh _ hsb, ?_⟩) L.kind)
    show codeAny _ _ (.expr body (LamX.lamEnv X scope s1.heap.objs.size f c')) _ _
    have kp : ∀ b o, s1.heap.get? b = some o → h₁.get? b = some o := fun b o e => hsb.extBut b o (Nat.ne_of_lt (Heap.lt_size e)) (Heap.get?_push_of_some _ e)
    refine PySem.W.kla_codeExpr (wpAny_mono ((hbody _ _ s1 H1 _ (hr.deeper _) hgu).run [] _ _ H1 Q (LamX.lam_start2 I L I1.env0 hr.hd I1.base hns kp) h3) (fun v s' hq => ?_) fun e s' hq => hq)
    obtain ⟨w', H', J', rv, q⟩ := hq
    exact ⟨w', H', J'.os, J'.bare, J'.base, J'.hok, rv, q⟩
  refine wpAny_call (codeAny_mono rc fun r s' hq => ?_)
  cases r with
  | error e => exact passAt tk sz pz H1 s1 e s' I1 hq
  | ok fl =>
    cases fl with
    | ret u => exact I1.after hq
    | next => exact False.elim hq
    | brk => exact False.elim hq
    | cont => exact False.elim hq
end
/-- what the def makes of it -/
def MetG (X : Cx) (Ng : List Str) (x : Str) (sc : Scope) (g : Addr) (cdg : Value) (bg : List Stmt) (a q : Str) (kr : Nat) (TT : (XK → Hp → VK → Prop) → Hp → VK → Prop) : Prop :=
  ∀ (f c' : Addr) (s : Shared) (H : Hp) (Q : VK) (tl : XK → Hp → VK → Prop), Room kr (X.A.deeper (envOfC x sc s.heap.objs.size g cdg)) →
    (∀ (W : WX) (pn : List (Addr × Obj)) (xe : Value → Shared → Prop) (p1 p2 : Pos), Takes ((cxOf (L2.CX X.prog X.w) X.prog X.w X.K X.mg X.base Ng x sc g cdg X.A X.stack s H C8.E0).tr pn xe) W →
      PE ((cxOf (L2.CX X.prog X.w) X.prog X.w X.K X.mg X.base Ng x sc g cdg X.A X.stack s H C8.E0).tr pn xe) (.Call (.Name a p1) [] [] p2) (fun sz hz Q => sz[0]? = some (some (.ref f)) ∧ hz c' = some (LamX.CodeO c' q) ∧ tl (fun cl d h' => W cl d sz h') hz Q)) →
    H c' = some (LamX.CodeO c' q) → TT tl H Q →
    ∃ t, PSs (cxOf (L2.CX X.prog X.w) X.prog X.w X.K X.mg X.base Ng x sc g cdg X.A X.stack s H C8.E0) bg t ∧ t { nx := fun _ H' => Q .non H', rt := Q } (L2.start Ng [.ref f]) H
def tMetR (P : Addr) (q : Str) (TT : (XK → Hp → VK → Prop) → Hp → VK → Prop) (t : XK → TE) : TE := fun sg hp Q => LamX.TabS hp P q ∧ ∀ h1, ExtP P hp h1 → LamX.TabS h1 P q → TT (fun E H' Q' => t E sg H' Q') h1 Q
section
variable {X : Cx}
/-- x(lambda: body) -/
theorem pe_met {TT : (XK → Hp → VK → Prop) → Hp → VK → Prop} {x a : Str} {g c P : Addr} {k : Nat} {pg : Arguments} {bg : List Stmt} {sc : Scope} {dV kV doc pm cdv ct oc : Value} {an od : Option Addr} {osl : Array (Option Value)} {Ng : List Str}
    {params : Arguments} {body : Expr} {scope : Scope} {t : XK → TE} {p lpos pos : Pos} (hg : Gl X x) (hm : X.mg x = some (.ref g)) (hk : PySem.W.keepIn X.K (.ref g) = true)
    (lk : X.K.lookup g = some ⟨oc, od, .func (PySem.W.fnOf x x pg bg sc dV kV doc pm an cdv ct), osl⟩) (hcg : PySem.W.codeIn X.K cdv x = true) (hb : L2.Binds X.K (PySem.W.fnOf x x pg bg sc dV kV doc pm an cdv ct) [a] []) (Sg : FnScope Ng [a] sc) (hNg : Ng[0]? = some a) (hva : Vis sc a)
    (hG : MetG X Ng x sc g cdv bg a (X.env.qual ++ "<lambda>") (k + 1) TT) (TB : LamX.TabB X.base X.mg c P) (hcode : X.env.code = .ref c) (hr : Room (k + 2) X.A) (L : LamX.LamS X.env.scope scope) (hdef : defaultsOf params X.env = ([], []))
    (hbind : ∀ (q : Str) (cl : List (Str × Addr)) (pm cv ctv : Value), bindArgs (PySem.W.kla_fn "<lambda>" q params body scope cl pm cv ctv) ⟨[], []⟩ = pure [])
    (hgu : X.A.guards = some []) (hbody : ∀ (A : Around) (outer : List Env) (s : Shared) (H : Hp) (E : XK) (f c' : Addr), Room k (A.deeper (LamX.lamEnv X scope s.heap.objs.size f c')) → A.guards = some [] → PE (LamX.lamCx X A outer s H E scope f c') body (t E))
    (hdb : (x == ("__debug__" : Str)) = false := by decide) (hd : (a == ("__debug__" : Str)) = false := by decide) (hcd : (a == ("__classdict__" : Str)) = false := by decide) :
    PE X (.Call (.Name x p) [.Lambda params body scope lpos] [] pos) (tMetR P (X.env.qual ++ "<lambda>") TT t) := by
  refine ⟨fun pins s sg hp Q I h => ?_⟩
  obtain ⟨hT, h⟩ := h
  refine wpAny_Call_Name_kw (ld_glob I hg hm ?_ hdb)
  refine PySem.W.callWith_K (h₀ := X.base) I.ok.mod.kin hk ?_ (by rfl) (by rfl)
  show wpAny _ _ (spliced ((false, eval (.Lambda params body scope lpos) X.env) :: backTo pos (starEach [] X.env))) _ _ s
  refine Calls.spliced_cons (lam_new I TB hcode hT hdef (L.has I.ok) fun f c' pm' ctv h1 s' I1 eN T1 hf hfn hfr hco => ?_)
  refine Calls.spliced_nil ⟨I1.kIn, ?_⟩
  have rc : codeAny (model X.prog X.w) X.A (.call (.ref g) ⟨[.ref f], []⟩) (CR (L2.CX X.prog X.w) X.stack X.prog X.w h1 s' Q C8.E0) s' :=
    LamX.run_ofS (N := Ng) (ps := [a]) (us := [.ref f]) (vs := [.ref f]) lk hcg Sg hr I1.env0 (hb s' [.ref f] I1.kIn rfl) (.cons rfl .nil) rfl fun hr' =>
      hG f c' s' h1 Q (fun E H' Q' => t E sg H' Q') hr' (fun W pn xe p1 p2 tk => lam_act I1 L hf hfn hfr (hbind _ _ _ _ _) tk hr' hgu (fun A outer s H E hr2 hg2 => hbody A outer s H E f c' hr2 hg2) hNg hva hd hcd) hco (h h1 eN T1)
  refine wpAny_call (codeAny_mono rc fun r s2 hq => ?_)
  cases r with
  | error e =>
    obtain ⟨_, _, _, _, _, _, _, _, _, _, _, _, z⟩ := hq
    exact z.elim
  | ok fl =>
    cases fl with
    | ret u => exact I1.after hq
    | next => exact False.elim hq
    | brk => exact False.elim hq
    | cont => exact False.elim hq
end
end Dv

set_option maxHeartbeats 4000000
/-! met(lambda: e) over data -/
namespace Dv
open PySem PySem.Spec PyProof.Rows L2
set_option autoImplicit false
/-- what is known at the call: the lambda's outcome r, at the maker's cells -/
def TTd (K : PySem.W.Frag) (cad : Nat → Addr) (metR : Res D → Res D) : (XK → Hp → VK → Prop) → Hp → VK → Prop := fun tl H Q =>
  ∃ (A : Wy) (S : Store) (r : Res D), Cells K A S H ∧ (∀ E' Q', FOut K cad A S H Q' E' r → tl E' H Q') ∧ FOut K cad A S H Q (fun _ _ _ => False) (metR r)
def mLam (ti : Nat) (dn : Str) (metR : Res D → Res D) (m : ME) : ME := fun ρ S => match S[ti]? with
  | some (some (.tab y)) => if y = dn then metR (m ρ S) else .bad
  | _ => .bad
/-- the clauses' outcome, in the def's own frame of n slots -/
def excR (cs : List Nat) (n : Nat) (hl : List HD) (c : Nat) (fs : List D) (S : Store) : Res D :=
  if cs.contains c then (match pick c fs (List.replicate n none) (S ++ List.replicate n none) hl with
    | .rt d S2 => if plain d && !isNew d then .ok d (S2.take S.length) else .bad
    | _ => .bad) else .bad
def metR (okf : D → Option D) (cs : List Nat) (n : Nat) (hl : List HD) : Res D → Res D
  | .ok d S => (match okf d with | some d' => .ok d' S | none => .bad)
  | .exc c fs S => excR cs n hl c fs S
  | .bad => .bad
def okA (t d : D) : Option D := if plain d then some (.tup [t, cool d]) else none
def okC (d : D) : Option D := some d
def okB (t : D) (_ : D) : Option D := some t
def sitL (s : Sit) (E : XK) : Sit := { s with W := fun cl d _ h => E cl d h }
def sitLam (s : Sit) (A : Around) (outer : List Env) (sh : Shared) (H : Hp) (E : XK) (scope : Scope) (f c' : Addr) : Sit where
  X := LamX.lamCx s.X A outer sh H E scope f c'
  base := s.base
  W := fun cl d _ h => E cl d h
  Z := s.Z
  cad := s.cad
theorem excR_exc {cs : List Nat} {n : Nat} {hl : List HD} {c' c : Nat} {fs' fs : List D} {S' S : Store} (h : excR cs n hl c' fs' S' = .exc c fs S) : False := by
  unfold excR at h
  by_cases hc : cs.contains c' = true
  · rw [if_pos hc] at h
    cases hp : pick c' fs' (List.replicate n none) (S' ++ List.replicate n none) hl with
    | rt d S2 =>
      rw [hp] at h
      have h : (if (plain d && !isNew d) = true then Res.ok d (S2.take S'.length) else .bad) = .exc c fs S := h
      split at h <;> cases h
    | nx _ _ => rw [hp] at h; cases h
    | bk _ _ => rw [hp] at h; cases h
    | ct _ _ => rw [hp] at h; cases h
    | exc _ _ _ _ => rw [hp] at h; cases h
    | bad => rw [hp] at h; cases h
  · rw [if_neg hc] at h; cases h
theorem metR_exc {okf : D → Option D} {cs : List Nat} {n : Nat} {hl : List HD} {r : Res D} {c : Nat} {fs : List D} {S : Store} (h : metR okf cs n hl r = .exc c fs S) : False := by
  cases r with
  | ok d S =>
    have h : (match okf d with | some d' => Res.ok d' S | none => .bad) = .exc c fs _ := h
    cases ho : okf d with
    | none => rw [ho] at h; cases h
    | some d' => rw [ho] at h; cases h
  | bad => cases h
  | exc c' fs' S' => exact excR_exc h
section
variable {s : Sit} {G : Gd} {k : Nat}
/-- the lambda is made, the def is called -/
theorem lam_red {ti : Nat} {dn : Str} {okf : D → Option D} {cs : List Nat} {n : Nat} {hl : List HD} {m : ME} {σ : L2.St} {H : Hp} {Q : VK} {q : Str} (hz : s.Z = Z0) (hq : tQ dn = q) (h : tD s (mLam ti dn (metR okf cs n hl) m) σ H Q) :
    tMetR (tA s.X.K dn) q (TTd s.X.K s.cad (metR okf cs n hl)) (fun E => tD (sitL s E) m) σ H Q := by
  subst hq
  obtain ⟨ρ, S, A, c, h⟩ := h
  unfold mLam at h
  cases ht : S[ti]? with
  | none => rw [ht] at h; exact h.elim
  | some x =>
    rw [ht] at h
    cases x with
    | none => exact h.elim
    | some d =>
      cases d with
      | tab y =>
        have hh : EOut s A S H σ Q (if y = dn then metR okf cs n hl (m ρ S) else .bad) := h
        clear h
        by_cases hy : y = dn
        case neg => rw [if_neg hy] at hh; exact hh.elim
        rw [if_pos hy] at hh
        subst hy
        have cl := c.cells.at_ ti _ ht
        have own : OwC A S (A.loc ti) := ⟨ti, _, ht, rfl⟩
        cases cl with
        | tab e tb =>
          rw [e] at tb own
          refine ⟨tb, fun h1 ex tb1 => ?_⟩
          have ext : Ext (OwC A S) H h1 := fun a o q n => ex a o q fun z => n (by rw [z]; exact own)
          have cells : Cells s.X.K A S h1 := by
            refine ⟨fun i d hd => ?_, c.cells.inj, fun a z => ?_, c.cells.apart⟩
            · by_cases hi : i = ti
              · subst hi
                rw [ht] at hd; cases hd
                exact .tab e (by rw [e]; exact tb1)
              · refine (c.cells.at_ i d hd).ext c.cells.owns ext.own (.refl _ _) fun o w => ex _ _ w fun z => hi ?_
                exact c.cells.inj i ti d _ hd ht (z.trans e.symm)
            · obtain ⟨o, w, mu⟩ := c.cells.phs a z
              exact ⟨o, ex _ _ w (fun y => c.cells.apart a z (by rw [y]; exact own)), mu⟩
          have p : Pst s.X.K A S H S h1 := ⟨ext, .refl _, rfl, cells⟩
          refine ⟨A, S, m ρ S, cells, fun E' Q' fo => ⟨ρ, S, A, Cn.conv (s := s) (s' := sitL s E') rfl rfl rfl (c.step p), ?_⟩, ?_⟩
          · cases em : m ρ S with
            | ok d S1 => rw [em] at fo; intro v H2 p2 r f; exact fo v H2 p2 (by rw [← hz]; exact r) f
            | exc cc fs S1 => rw [em] at fo; intro dd H2 p2 z; exact fo dd H2 p2 z
            | bad => rw [em] at fo; exact fo
          · have h2 := hh.on c.cells p
            cases er : metR okf cs n hl (m ρ S) with
            | ok d S1 => rw [er] at h2; intro v H2 p2 r f; exact h2 v H2 p2 (by rw [hz]; exact r) f
            | exc cc fs S1 => exact (metR_exc er).elim
            | bad => rw [er] at h2; exact h2
      | _ => exact h.elim
theorem Gs.lam {A : Around} {outer : List Env} {sh : Shared} {H : Hp} {E : XK} {scope : Scope} {f c' : Addr} {j : Nat} (g : Gs G j s) (hr : Room k (A.deeper (LamX.lamEnv s.X scope sh.heap.objs.size f c'))) (hgu : A.guards = some []) : Gs G k (sitLam s A outer sh H E scope f c') :=
  ⟨g.P, g.w, g.K, g.mg, g.base, g.cad, hr, hgu, rfl, takes_of rfl rfl rfl rfl, g.zn⟩
theorem se_lam {x a dn : Str} {ti n : Nat} {st : Stmt} {Ng : List Str} {okf : D → Option D} {cs : List Nat} {hl : List HD} {params : Arguments} {body : Expr} {scope : Scope} {m : ME} {p lpos pos : Pos} {j : Nat} (g : Gs G j s) (hj : k + 2 ≤ j) (hz : s.Z = Z0) (hg : Gl s.X x)
    (hm : G.mg x = some (.ref (He.ga G.K x))) (F : ∃ fd, FunD G.K x x (defArgs st) (defBody st) (defScope st) [] [] (He.ga G.K x) fd) (hb : ∀ (kV doc pm : Value) (an : Option Addr) (cdv ct : Value) (us : List Value), us.length = [a].length → bindArgs (PySem.W.fnOf x x (defArgs st) (defBody st) (defScope st) .none kV doc pm an cdv ct) ⟨us, []⟩ = pure ([a].zip us)) (Sg : FnScope Ng [a] (defScope st)) (hNg : Ng[0]? = some a) (hva : Vis (defScope st) a)
    (hG : ∀ cdv, MetG s.X Ng x (defScope st) (He.ga G.K x) cdv (defBody st) a (s.X.env.qual ++ "<lambda>") (k + 1) (TTd s.X.K s.cad (metR okf cs n hl)))
    (TB : LamX.TabB G.base G.mg (He.codeOf G.K (dn, none)) (tA G.K dn)) (hcode : s.X.env.code = .ref (He.codeOf G.K (dn, none))) (hq : tQ dn = s.X.env.qual ++ "<lambda>") (L : LamX.LamS s.X.env.scope scope) (hdef : defaultsOf params s.X.env = ([], []))
    (hbind : ∀ (q : Str) (cl : List (Str × Addr)) (pm cv ctv : Value), bindArgs (PySem.W.kla_fn "<lambda>" q params body scope cl pm cv ctv) ⟨[], []⟩ = pure [])
    (hbody : ∀ (A : Around) (outer : List Env) (sh : Shared) (H : Hp) (E : XK) (f c' : Addr), Gs G k (sitLam s A outer sh H E scope f c') → SE (sitLam s A outer sh H E scope f c') body m)
    (hdb : (x == ("__debug__" : Str)) = false := by decide) (hd : (a == ("__debug__" : Str)) = false := by decide) (hcd : (a == ("__classdict__" : Str)) = false := by decide) :
    SE s (.Call (.Name x p) [.Lambda params body scope lpos] [] pos) (mLam ti dn (metR okf cs n hl) m) := by
  obtain ⟨fd, F⟩ := F
  have hb2 := F.bindsN hb
  obtain ⟨oc, od, dV, kV, doc, pm, an, cdv, ct, osl, rfl, lk, hcg, hdV, hkV⟩ := F.ex
  refine PE.weak (pe_met (k := k) (c := He.codeOf G.K (dn, none)) (P := tA s.X.K dn) (t := fun E => tD (sitL s E) m) hg (by rw [g.mg]; exact hm) (by rw [g.K]; exact F.kp) (by rw [g.K]; exact lk) (by rw [g.K]; exact hcg) (by rw [g.K]; exact hb2) Sg hNg hva (hG cdv) (by rw [g.base, g.mg, g.K]; exact TB) hcode (g.room.mono hj) L hdef hbind g.guards
    (fun A outer sh H E f c' hr hgu => PE.weak (hbody A outer sh H E f c' (g.lam hr hgu)) fun σ H2 Q q => ?_) hdb hd hcd) fun σ H Q q => ?_
  · obtain ⟨ρ, S, A2, c, q⟩ := q
    refine ⟨ρ, S, A2, Cn.conv (s := sitL s E) (s' := sitLam s A outer sh H E scope f c') rfl rfl rfl c, ?_⟩
    cases em : m ρ S with
    | ok d S1 => rw [em] at q; exact q
    | exc cc fs S1 => rw [em] at q; exact q
    | bad => rw [em] at q; exact q
  · exact lam_red hz hq q
end
end Dv

set_option maxHeartbeats 4000000
/-! the forms of a def that calls what it got within a try -/
namespace Dv
open PySem PySem.Spec PyProof.Rows L2
set_option autoImplicit false
section
variable {sM : Sit} {A : Wy} {S S1 : Store} {H H1 : Hp} {Q : VK} {En : Ends} {cs : List Nat} {n : Nat} {hl : List HD} {c : Nat} {fs : List D} {dd : Option Addr} {Ng : List Str} {f : Addr}
theorem exc_part (hZ : sM.Z = Z0) (hW : sM.W = fun _ _ _ _ => False) (hb : sM.base = S.length) (hr : En.rt = Q) (hn : Ng.length = n) (hm : ∀ c ∈ cs, ∀ h ∈ hl, PySem.W.exmOne sM.X.K (.ref (sM.cad c)) (.ref (sM.cad h.1)) = some (subC c h.1)) (hn0 : 0 < n)
    (p : Pst sM.X.K A S H S1 H1) (ex : ExAt sM.X.K H1 (Own A S1) c dd fs) (fo : FOut sM.X.K sM.cad A S H Q (fun _ _ _ => False) (excR cs n hl c fs S1)) : wHs sM.X.K (fun _ _ _ _ => False) En (hsL sM hl) (.ref (sM.cad c)) dd (L2.start Ng [.ref f]) H1 := by
  unfold excR at fo
  by_cases hc : cs.contains c = true
  case neg => rw [if_neg hc] at fo; exact fo.elim
  rw [if_pos hc] at fo
  have hcm : c ∈ cs := by simpa using hc
  have ls : S1.length = S.length := p.len
  have none_ : ∀ (i : Nat) (d : D), (List.replicate n (none : Option D))[i]? = some (some d) → False := fun i d h => by
    rw [List.getElem?_replicate] at h
    split at h <;> cases h
  have cn : Cn sM (List.replicate n none) (S1 ++ List.replicate n none) A (L2.start Ng [.ref f]) H1 :=
    ⟨fun i d h => (none_ i d h).elim, p.cells.nones, fun i m h => (none_ i _ h).elim, by unfold L2.start; simp; omega, by rw [hb, List.length_append, List.length_replicate]; omega⟩
  rw [← hW]
  refine pick_ok (S := S1 ++ List.replicate n none) (H := H1) (A := A) (En := En) (by rw [hZ]; exact fun _ _ _ z => z) .refl cn (ex.ext p.cells.owns (.refl _ _) fun x z => .inl (by rw [← nones_own2 (N := n)]; exact z)) hl (hm c hcm) ?_
  cases hp : pick c fs (List.replicate n none) (S1 ++ List.replicate n none) hl with
  | nx _ _ => rw [hp] at fo; exact fo.elim
  | bk _ _ => rw [hp] at fo; exact fo.elim
  | ct _ _ => rw [hp] at fo; exact fo.elim
  | exc _ _ _ _ => rw [hp] at fo; exact fo.elim
  | bad => rw [hp] at fo; exact fo.elim
  | rt d S2 =>
    rw [hp] at fo
    have fo : FOut sM.X.K sM.cad A S H Q (fun _ _ _ => False) (if (plain d && !isNew d) = true then .ok d (S2.take S1.length) else .bad) := fo
    by_cases hd : (plain d && !isNew d) = true
    case neg => rw [if_neg hd] at fo; exact fo.elim
    rw [if_pos hd] at fo
    simp only [Bool.and_eq_true, Bool.not_eq_true'] at hd
    intro v H2 A2 p2 c2 r2 f2
    rw [hr]
    rw [hb, ← ls] at p2
    exact fo v H2 (p.trans (p2.done c2)) (.inr (.inl ((r2.plain hd.1).own c2.owns fun x z => take_own p2.low p2.ph z))) (.old hd.2)
theorem fo_of {okf : D → Option D} {r : Res D} {Q' : VK} (hZ : sM.Z = Z0) (hW : sM.W = fun _ _ _ _ => False) (hb : sM.base = S.length) (hr : En.rt = Q) (hn : Ng.length = n) (hm : ∀ c ∈ cs, ∀ h ∈ hl, PySem.W.exmOne sM.X.K (.ref (sM.cad c)) (.ref (sM.cad h.1)) = some (subC c h.1)) (hn0 : 0 < n)
    (ok : ∀ (d d' : D) (S1 : Store) (v : V) (H1 : Hp), okf d = some d' → Pst sM.X.K A S H S1 H1 → RpS sM.X.K Z0 A S1 H1 v d → Fresh sM.X.K A S1 H H1 v d → (∀ v' H2, Pst sM.X.K A S H S1 H2 → RpS sM.X.K Z0 A S1 H2 v' d' → Fresh sM.X.K A S1 H H2 v' d' → Q v' H2) → Q' v H1)
    (fo : FOut sM.X.K sM.cad A S H Q (fun _ _ _ => False) (metR okf cs n hl r)) : FOut sM.X.K sM.cad A S H Q' (fun cl d h' => wHs sM.X.K (fun _ _ _ _ => False) En (hsL sM hl) cl d (L2.start Ng [.ref f]) h') r := by
  cases r with
  | bad => exact fo
  | exc c fs S1 => intro dd H1 p ex; exact exc_part hZ hW hb hr hn hm hn0 p ex fo
  | ok d S1 =>
    intro v H1 p rv fr
    have fo : FOut sM.X.K sM.cad A S H Q (fun _ _ _ => False) (match okf d with | some d' => .ok d' S1 | none => .bad) := fo
    cases ho : okf d with
    | none => rw [ho] at fo; exact fo.elim
    | some d' => rw [ho] at fo; exact ok d d' S1 v H1 ho p rv fr fo
end
section
variable {s : Sit} {G : Gd} {j kr : Nat} {Ng : List Str} {x a q : Str} {sc : Scope} {cdv : Value} {h0 : ExceptHandler} {hds : List ExceptHandler} {hl : List HD} {cs : List Nat} {pos rp tp p1 p2 ep : Pos} {tx : Nat} {tc : Expr} {tv : V} {td : D}
/-- the situation of the def that got the lambda -/
abbrev sitM (s : Sit) (Ng : List Str) (x : Str) (sc : Scope) (g : Addr) (cdv : Value) (sh : Shared) (H : Hp) (base : Nat) : Sit where
  X := cxOf (L2.CX s.X.prog s.X.w) s.X.prog s.X.w s.X.K s.X.mg s.X.base Ng x sc g cdv s.X.A s.X.stack sh H C8.E0
  base := base
  W := fun _ _ _ _ => False
  Z := Z0
  cad := s.cad
/-- the clauses are as told, in every such situation -/
def HsAll (s : Sit) (Ng : List Str) (x : Str) (sc : Scope) (g : Addr) (cdv : Value) (kr : Nat) (hs : List ExceptHandler) (hl : List HD) : Prop :=
  ∀ (sh : Shared) (H : Hp) (base : Nat), Room kr (s.X.A.deeper (envOfC x sc sh.heap.objs.size g cdv)) → HsD (sitM s Ng x sc g cdv sh H base) hs hl
theorem start0 {Ng : List Str} {f : Addr} : (L2.start Ng [V.ref f])[0]? = some (some (.ref f)) := rfl
theorem metg_A (g : Gs G j s) (hN : Ng.Nodup) (hn0 : 0 < Ng.length) (hm : ∀ c ∈ cs, ∀ h ∈ hl, PySem.W.exmOne s.X.K (.ref (s.cad c)) (.ref (s.cad h.1)) = some (subC c h.1)) (hh : HsAll s Ng x sc (He.ga G.K x) cdv kr (h0 :: hds) hl)
    (htc : ∀ X, PE X tc (tC tv)) (hst : ∀ es env, starEach (tc :: es) env = (false, eval tc env) :: starEach es env) (ht : ∀ K H O, Rp K H O tv td) (hp : plain td = true) (hc : cool td = td) :
    MetG s.X Ng x sc (He.ga G.K x) cdv [.Try [.Return (some (.Tuple [tc, .Call (.Name a p1) [] [] p2] tx tp)) rp] (h0 :: hds) [] [] pos] a q kr (TTd s.X.K s.cad (metR (okA td) cs Ng.length hl)) := by
  intro f c' sh H Q tl hr act hco htl
  obtain ⟨A, S, r, cells, htl, fo⟩ := htl
  refine ⟨_, pss_one (ps_try_hs (X := (sitM s Ng x sc (He.ga G.K x) cdv sh H S.length).X) (Wo := fun _ _ _ _ => False)
    (tb := fun W D σ H => σ[0]? = some (some (V.ref f)) ∧ H c' = some (LamX.CodeO c' q) ∧ tl (fun cl d h' => W cl d σ h') H (fun v H2 => ([tv, v] : List V).length ≤ sizeLine ∧ ∀ p, H2 p = none → D.rt (.ref p) (upd H2 p (.tup [tv, v])))) hN rfl rfl takes0
    (fun W pn xe tk => PSs.weak (pss_one (ps_ret (pe_tup (pa_cons (htc _) (pa_cons (act W pn xe p1 p2 tk) pa_nil) (hst _ _))))) fun D σ H q => q) (hh sh H S.length hr).hs), ?_⟩
  refine ⟨start0, hco, htl _ _ (fo_of (sM := sitM s Ng x sc (He.ga G.K x) cdv sh H S.length) rfl rfl rfl rfl rfl hm hn0 (fun d d' S1 v H1 ho p rv fr fin => ?_) fo)⟩
  unfold okA at ho
  split at ho
  case isFalse => cases ho
  rename_i hpd
  cases ho
  refine ⟨by show 2 ≤ sizeLine; rw [sizeLine_eq]; decide, ?_⟩
  refine new_tup (Z := Z0) p.cells (.cons (ht _ _ _) (.cons (rv.plain hpd).cool .nil)) fun z H2 sm rz fz => ?_
  have p2 : Pst s.X.K A S1 H1 S1 H2 := .of_same p.cells sm
  exact fin z H2 (p.trans p2) rz (.old rfl)
theorem metg_C (g : Gs G j s) (hN : Ng.Nodup) (hn0 : 0 < Ng.length) (hm : ∀ c ∈ cs, ∀ h ∈ hl, PySem.W.exmOne s.X.K (.ref (s.cad c)) (.ref (s.cad h.1)) = some (subC c h.1)) (hh : HsAll s Ng x sc (He.ga G.K x) cdv kr (h0 :: hds) hl) :
    MetG s.X Ng x sc (He.ga G.K x) cdv [.Try [.Return (some (.Call (.Name a p1) [] [] p2)) rp] (h0 :: hds) [] [] pos] a q kr (TTd s.X.K s.cad (metR okC cs Ng.length hl)) := by
  intro f c' sh H Q tl hr act hco htl
  obtain ⟨A, S, r, cells, htl, fo⟩ := htl
  refine ⟨_, pss_one (ps_try_hs (X := (sitM s Ng x sc (He.ga G.K x) cdv sh H S.length).X) (Wo := fun _ _ _ _ => False)
    (tb := fun W D σ H => σ[0]? = some (some (V.ref f)) ∧ H c' = some (LamX.CodeO c' q) ∧ tl (fun cl d h' => W cl d σ h') H D.rt) hN rfl rfl takes0
    (fun W pn xe tk => PSs.weak (pss_one (ps_ret (act W pn xe p1 p2 tk))) fun D σ H q => q) (hh sh H S.length hr).hs), ?_⟩
  refine ⟨start0, hco, htl _ _ (fo_of (sM := sitM s Ng x sc (He.ga G.K x) cdv sh H S.length) rfl rfl rfl rfl rfl hm hn0 (fun d d' S1 v H1 ho p rv fr fin => ?_) fo)⟩
  cases ho
  exact fin v H1 p rv fr
theorem metg_B (g : Gs G j s) (hN : Ng.Nodup) (hn0 : 0 < Ng.length) (hm : ∀ c ∈ cs, ∀ h ∈ hl, PySem.W.exmOne s.X.K (.ref (s.cad c)) (.ref (s.cad h.1)) = some (subC c h.1)) (hh : HsAll s Ng x sc (He.ga G.K x) cdv kr (h0 :: hds) hl)
    (htc : ∀ X, PE X tc (tC tv)) (ht : ∀ K H O, Rp K H O tv td) (hnw : isNew td = false) (hs : ∀ sh H base, swapsWith (.Call (.Name a p1) [] [] p2) none ep.line (sitM s Ng x sc (He.ga G.K x) cdv sh H base).X.env = pure false) :
    MetG s.X Ng x sc (He.ga G.K x) cdv [.Try [.Expr (.Call (.Name a p1) [] [] p2) ep] (h0 :: hds) [] [] pos, .Return (some tc) rp] a q kr (TTd s.X.K s.cad (metR (okB td) cs Ng.length hl)) := by
  intro f c' sh H Q tl hr act hco htl
  obtain ⟨A, S, r, cells, htl, fo⟩ := htl
  refine ⟨_, pss_cons (ps_try_hs (X := (sitM s Ng x sc (He.ga G.K x) cdv sh H S.length).X) (Wo := fun _ _ _ _ => False)
    (tb := fun W D σ H => σ[0]? = some (some (V.ref f)) ∧ H c' = some (LamX.CodeO c' q) ∧ tl (fun cl d h' => W cl d σ h') H (fun _ H2 => D.nx σ H2)) hN rfl rfl takes0
    (fun W pn xe tk => PSs.weak (pss_one (ps_expr (act W pn xe p1 p2 tk) (hs sh H S.length))) fun D σ H q => q) (hh sh H S.length hr).hs) (pss_one (ps_ret (htc _))), ?_⟩
  refine ⟨start0, hco, htl _ _ (fo_of (sM := sitM s Ng x sc (He.ga G.K x) cdv sh H S.length) rfl rfl rfl rfl rfl hm hn0 (fun d d' S1 v H1 ho p rv fr fin => ?_) fo)⟩
  cases ho
  exact fin tv H1 p (.inr (.inl (ht _ _ _))) (.old hnw)
end
/-! ### the field of a caught error -/
def mErrF (c : Nat) (m : ME) : ME := fun ρ S => (m ρ S).bind fun d S1 => match d with
  | .err c' [x] => if c' = c && !isNew x then .ok x S1 else .bad
  | _ => .bad
theorem se_errF {s : Sit} {q : Addr} {ob : Obj} {cl : Value} {dd : Option Addr} {pn : List (Addr × Obj)} {e : Expr} {m : ME} {c : Nat} {pos : Pos} {n : Str} (hn : n = cfn c) (hz : Zc cl dd ob) (hf : ∃ fs, ob.data = .fields fs) (T : XfC s.X.K (s.cad c)) (hno : PySem.W.findIn s.X.K (.ref (s.cad c)) n = some none)
    (he : SE (sitSu s q cl dd ((q, ob) :: pn)) e m) (hb : attributeBase e n s.X.env (eval e s.X.env) = eval e s.X.env := by rfl) : SE (sitSu s q cl dd ((q, ob) :: pn)) (.Attribute e n pos) (mErrF c m) := by
  subst hn
  refine PE.weak (pe_xf (X := s.X) T hno hz hf he hb) fun σ H Q z => ?_
  obtain ⟨ρ, S, A, cn, z⟩ := z
  refine tD_bind cn z fun d S1 v H1 _ p1 c1 r1 f1 z1 => ?_
  cases d with
  | err c' fs =>
    cases fs with
    | nil => exact z1.elim
    | cons x r =>
      cases r with
      | cons _ _ => exact z1.elim
      | nil =>
        dsimp only at z1
        split at z1
        case isFalse => exact z1.elim
        rename_i hx
        simp only [Bool.and_eq_true, Bool.not_eq_true', decide_eq_true_eq] at hx
        obtain ⟨rfl, hx⟩ := hx
        rcases r1 with ⟨_, _, y, _⟩ | y | ⟨c2, fs2, d2, e1, ⟨z2, z3, z4⟩, ex⟩
        · cases y
        · cases y
        · cases e1
          subst z4
          rcases ex with y | ⟨xa, u, f, y1, y2, y3, y4⟩
          · cases y
          · cases y1
            refine ⟨z2, z3.symm, xa, _, u, y2, y3, by simp [List.lookup], ?_⟩
            exact (z1.on cn.cells p1) u H1 (.refl c1.cells) (.inr (.inl y4)) (.old hx)
  | _ => exact z1.elim
end Dv

set_option maxHeartbeats 4000000
/-! instances with slots as data: isinstance, fields -/
namespace Dv
open PySem PySem.Spec PyProof.Rows L2
set_option autoImplicit false
/-- what is said of such a class -/
structure OCls (G : Gd) (c : Nat) : Prop where
  g : G.mg (clsN c) = some (.ref (He.ga G.K (clsN c)))
  s : SlX.SCls G.K (He.ga G.K (clsN c))
  i : SlX.SIsi G.K (He.ga G.K (clsN c))
  own : PySem.W.kitOne G.K (.ref (He.ga G.K (clsN c))) (.ref (He.ga G.K (clsN c))) = some true
  oth : ∀ t ∈ tyNames, PySem.W.kitOne G.K (.type t) (.ref (He.ga G.K (clsN c))) = some false
/-- isinstance(d, the class c) -/
def isObj (c : Nat) : D → Option Bool
  | .obj k _ => if k = c then some true else none
  | d => (tyD d).map fun _ => false
def mIsO (c : Nat) (m : ME) : ME := fun ρ S => (m ρ S).bind fun d S1 => match isObj c (vw S1 d) with
  | some b => .ok (.bl b) S1
  | none => .bad
/-- e.f, the field at place i -/
def mFld (c i : Nat) (m : ME) : ME := fun ρ S => (m ρ S).bind fun d S1 => match d with
  | .obj k fs => if k = c then (match fs[i]? with
    | some x => .ok (cool x) S1
    | none => .bad) else .bad
  | _ => .bad
section
variable {s : Sit} {G : Gd} {k c i : Nat} {e : Expr} {m : ME} {p p2 pos : Pos} {nm : Str}
theorem se_glob_cls (g : Gs G k s) (hc : OCls G c) (hg : Gl s.X (clsN c)) (hd : (clsN c == ("__debug__" : Str)) = false) : SE s (.Name (clsN c) p) (mK (.adr (He.ga G.K (clsN c)))) :=
  se_glob (v := .ref (He.ga G.K (clsN c))) hg (by rw [g.mg]; exact hc.g) rfl (fun _ _ => .adr _) rfl hd
theorem se_isO (g : Gs G k s) (hc : OCls G c) (hn : nm = clsN c) (hg : Gl s.X nm) (hgi : Gl s.X "isinstance") (hmi : s.X.mg "isinstance" = none) (he : SE s e m) (hd : (nm == ("__debug__" : Str)) = false := by decide)
    (hs1 : starEach (e :: [.Name nm p2]) s.X.env = (false, eval e s.X.env) :: starEach [.Name nm p2] s.X.env := by rfl) (hs2 : starEach [.Name nm p2] s.X.env = (false, eval (.Name nm p2) s.X.env) :: starEach [] s.X.env := by rfl) (hpl : (backTo pos (starEach [.Name nm p2] s.X.env)).any (·.1) = false := by rfl) :
    SE s (.Call (.Name "isinstance" p) [e, .Name nm p2] [] pos) (mIsO c m) := by
  subst hn
  refine PE.weak (pe_callB (call_or call_isi (SlX.call_isiSl (.ref (He.ga G.K (clsN c))))) hgi hmi bo_isinstance (sa_cons he (sa_cons (se_glob_cls g hc hg hd) sa_nil hs2) hs1) (by decide) (by decide) hs1 hpl) fun σ H Q q => ?_
  obtain ⟨ρ, S, A, cn, q⟩ := q
  show tDa s (aCons m (aCons (mK _) aNil)) σ H _
  refine ⟨ρ, S, A, cn, ?_⟩
  unfold mIsO at q
  unfold aCons aNil mK
  cases em : m ρ S with
  | exc x fs S1 => rw [em] at q; intro dd H1 p1 z; exact q dd H1 p1 z
  | bad => rw [em] at q; exact q
  | ok d S1 =>
    rw [em] at q
    dsimp only [bind_ok] at q ⊢
    intro vs H1 p1 r1
    obtain ⟨v, w, rfl, rv, rw_⟩ := r1.two
    have cn1 := cn.step p1
    have hw : w = .ref (He.ga G.K (clsN c)) := by
      rcases rw_ with ⟨_, _, z, _⟩ | r | ⟨_, _, _, z, _⟩
      · cases z
      · cases r; rfl
      · cases z
    subst hw
    cases hi : isObj c (vw S1 d) with
    | none => rw [hi] at q; exact q.elim
    | some b =>
      rw [hi] at q
      have fin : Q (.bl b) H1 := q _ H1 p1 (.inr (.inl (.bl b))) (.old rfl)
      by_cases ho : ∃ k fs, vw S1 d = .obj k fs
      · obtain ⟨k', fs, ho⟩ := ho
        rw [ho] at hi
        simp only [isObj] at hi
        split at hi
        case isFalse => cases hi
        rename_i hk
        subst hk
        cases hi
        cases rv.as cn1.cells ho with
        | cell ce => cases ce
        | rp r =>
          cases r with
          | obj oa _ =>
            obtain ⟨dx, h1, h2⟩ := oa
            exact .inr ⟨_, _, dx, _, _, true, rfl, rfl, fun w h => h, .inr ⟨by rw [g.K] at h1; exact h1, h2⟩, by rw [g.K]; exact hc.s, by rw [g.K]; exact hc.i, by rw [g.K]; exact hc.own, fin⟩
      · have ht : ∃ t, tyD (vw S1 d) = some t ∧ b = false := by
          cases hv : vw S1 d with
          | obj k' fs => exact absurd ⟨k', fs, hv⟩ ho
          | _ =>
            rw [hv] at hi
            simp only [isObj, Option.map_eq_some_iff] at hi
            obtain ⟨t, h1, h2⟩ := hi
            exact ⟨t, h1, h2.symm⟩
        obtain ⟨t, ht, rfl⟩ := ht
        obtain ⟨h1, h2⟩ := tyD_ok (s := s) cn1.cells rv ht
        exact .inl ⟨v, _, .type t, _, false, rfl, .own _, h1, by rw [g.K]; exact hc.oth t h2, fin⟩
theorem se_fld (g : Gs G k s) (hc : OCls G c) (ht : ∃ p, SlX.Slot1 G.K (He.ga G.K (clsN c)) nm p i) (he : SE s e m) (hb : attributeBase e nm s.X.env (eval e s.X.env) = eval e s.X.env := by rfl) : SE s (.Attribute e nm pos) (mFld c i m) := by
  obtain ⟨sp, T⟩ := ht
  refine PE.weak (SlX.pe_sl he hb) fun σ H Q q => ?_
  obtain ⟨ρ, S, A, cn, q⟩ := q
  refine tD_bind cn q fun d S1 v H1 _ p1 c1 r1 f1 q1 => ?_
  cases d with
  | obj k' fs =>
    dsimp only at q1
    split at q1
    case isFalse => exact q1.elim
    rename_i hk
    subst hk
    cases hf : fs[i]? with
    | none => rw [hf] at q1; exact q1.elim
    | some x =>
      rw [hf] at q1
      have r2 := r1.rp (fun n z => nomatch z) (fun c fs z => nomatch z)
      cases r2 with
      | obj oa ra =>
        obtain ⟨dx, h1, h2⟩ := oa
        obtain ⟨u, hu, ru⟩ := ra.get hf
        refine ⟨_, _, dx, sp, _, i, u, rfl, .inr ⟨h1, h2⟩, by rw [g.K]; exact hc.s, by rw [g.K]; exact T, ?_, ?_⟩
        · rw [List.getElem?_map, hu]; rfl
        · exact (q1.on cn.cells p1) u H1 (.refl c1.cells) (.inr (.inl ru.cool)) (.old (isNew_cool x))
  | _ => exact q1.elim
end
end Dv

set_option maxHeartbeats 4000000
/-! an instance with two slots is made -/
namespace Dv
open PySem PySem.Spec PyProof.Rows L2
set_option autoImplicit false
def slotP (ρ : Rho) (i : Nat) : Option D := match ρ[i]? with
  | some (some d) => if plain d && !isNew d then some (cool d) else none
  | _ => none
/-- C(..) by __init__: b is its checks; the fields come from the slots i0, i1 -/
def mkInit (N c i0 i1 : Nat) (b : Nat → MS) : Fn := fun ds S => match b S.length (some (.err 98 []) :: (ds.map some ++ List.replicate (N - 1 - ds.length) none)) (S ++ List.replicate N none) with
  | .nx ρ S1 => (match slotP ρ i0, slotP ρ i1, ρ[0]? with
    | some d0, some d1, some (some (D.err 98 [])) => .ok (.obj c [d0, d1]) (S1.take S.length)
    | _, _, _ => .bad)
  | .exc x fs _ S1 => .exc x fs (S1.take S.length)
  | _ => .bad
def Zi (x : Addr) : ZT := fun v c d => v = .ref x ∧ c = 98 ∧ d = none
/-- the situation of an __init__ -/
def sitI (G : Gd) (N : List Str) (qual : Str) (scope : Scope) (f : Addr) (cd : Value) (A : Around) (outer : List Env) (s : Shared) (H : Hp) (E : XK) (base : Nat) (x : Addr) : Sit where
  X := cxOf (L2.CX G.P G.w) G.P G.w G.K G.mg G.base N qual scope f cd A outer s H E
  base := base
  W := fun cls d _ H => E cls d H
  Z := Zi x
  cad := G.cad
theorem under_guards {A : Around} {C : Addr} {us : List Value} (h : A.guards = some []) : (A.under (.builtin "type.__call__" ⟨.ref C :: us, []⟩)).guards = some [] := by
  have hn : ¬ "type.__call__" ∈ guardIds := by decide
  simp [Around.under, pushGuards, Code.guards, Code.isGuard, h, hn]
/-- made: what the body's end leaves, without the new instance's own objects -/
theorem init_pst {K : PySem.W.Frag} {A A2 : Wy} {S S2 : Store} {N : Nat} {H Hx H2 H4 : Hp} {x dx : Addr} (c0 : Cells K A S H) (nx : H x = none) (nd : H dx = none) (eq : ∀ b, b ≠ x → b ≠ dx → Hx b = H b)
    (p : Pss S.length ⟨A.loc, fun a => A.ph a ∨ a = x ∨ a = dx⟩ (S ++ List.replicate N none) Hx A2 S2 H2) (c2 : Cells K A2 S2 H2) (k4 : ∀ b o, H2 b = some o → b ≠ x → b ≠ dx → H4 b = some o) :
    Pst K A S H (S2.take S.length) H4 ∧ Ext (Own A2 S2) H2 H4 ∧ ∀ a, Own A (S2.take S.length) a → Own A2 S2 a := by
  have oldx : ∀ b o, H b = some o → b ≠ x ∧ b ≠ dx := fun b o h => ⟨fun z => (by rw [z, nx] at h; cases h), fun z => (by rw [z, nd] at h; cases h)⟩
  have ex24 : Ext (Own A2 S2) H2 H4 := fun a o h n => k4 a o h (fun z => n (.inr (by rw [p.ph]; exact .inr (.inl z)))) fun z => n (.inr (by rw [p.ph]; exact .inr (.inr z)))
  have tk : ∀ a, Own A (S2.take S.length) a → Own A2 S2 a := fun a z => by
    rcases z with z | z
    · exact .inl (take_ownC (A := A) p.low z)
    · exact .inr (by rw [p.ph]; exact .inl z)
  refine ⟨⟨fun a o h n => ?_, fun n => ?_, ?_, ⟨fun n d h => ?_, fun n m d e h h' z => ?_, fun a z => ?_, fun a z w => ?_⟩⟩, ex24, tk⟩
  · obtain ⟨n1, n2⟩ := oldx a o h
    refine k4 a o (p.ext a o (by rw [eq a n1 n2]; exact h) fun z => n ?_) n1 n2
    obtain ⟨m, d, h1, h2⟩ := z
    exact ⟨m, d, nones_get h1, h2⟩
  · by_cases hn : n < S.length
    · rw [List.getElem?_take, if_pos hn, p.lives n hn, List.getElem?_append_left hn]
    · rw [List.getElem?_take, if_neg hn, List.getElem?_eq_none (by omega)]
  · rw [List.length_take, p.len, List.length_append]; omega
  · obtain ⟨h1, h2⟩ := take_get h
    have ce := c2.at_ n d h2
    have hl : A2.loc n = A.loc n := p.low n h1
    rw [hl] at ce
    refine ce.ext c2.owns ex24 (fun a z => .inl (tk a z)) fun o w => ?_
    have ow : OwC A2 S2 (A.loc n) := ⟨n, d, h2, hl⟩
    exact k4 _ o w (fun z => c2.apart x (by rw [p.ph]; exact .inr (.inl rfl)) (by rw [← z]; exact ow)) fun z => c2.apart dx (by rw [p.ph]; exact .inr (.inr rfl)) (by rw [← z]; exact ow)
  · obtain ⟨h1, h2⟩ := take_get h
    obtain ⟨h3, h4⟩ := take_get h'
    refine c2.inj n m d e h2 h4 ?_
    have l1 : A2.loc n = A.loc n := p.low n h1
    have l2 : A2.loc m = A.loc m := p.low m h3
    rw [l1, l2]; exact z
  · obtain ⟨o, w, mu⟩ := c2.phs a (by rw [p.ph]; exact .inl z)
    obtain ⟨o0, w0, _⟩ := c0.phs a z
    obtain ⟨n1, n2⟩ := oldx a o0 w0
    exact ⟨o, k4 a o w n1 n2, mu⟩
  · exact c2.apart a (by rw [p.ph]; exact .inl z) (take_ownC (A := A) p.low w)
section
variable {G : Gd} {k : Nat} {f : Addr} {st : Stmt} {fd : FuncData} {N : List Str} {n1 n2 : Str} {m1 m2 : Nat → MS} {c i0 i1 : Nat}
theorem init_of {iname qual : Str} {s1 s2 : Stmt} {f1 f2 : Str} {p1 p2 p3 p4 p5 p6 p7 p8 : Pos} {j1 j2 : Nat} (F : FunD G.K iname qual (defArgs st) (defBody st) (defScope st) [] [] f fd) (S : FnScope N [PySem.Str.ofString "self", n1, n2] (defScope st)) (hb : Binds G.K fd [PySem.Str.ofString "self", n1, n2] [])
    (oc : OCls G c) (hbd : defBody st = [s1, s2, .Assign [.Attribute (.Name "self" p1) f1 p2] (.Name n1 p3) p4, .Assign [.Attribute (.Name "self" p5) f2 p6] (.Name n2 p7) p8])
    (hN : N[0]? = some (PySem.Str.ofString "self") ∧ N[1]? = some n1 ∧ N[2]? = some n2) (hV : Vis (defScope st) "self" ∧ Vis (defScope st) n1 ∧ Vis (defScope st) n2) (hdb : (n1 == ("__debug__" : Str)) = false ∧ (n2 == ("__debug__" : Str)) = false ∧ (n1 == ("__classdict__" : Str)) = false ∧ (n2 == ("__classdict__" : Str)) = false)
    (T1 : ∃ p, SlX.Slot1 G.K (He.ga G.K (clsN c)) f1 p 1) (T2 : ∃ p, SlX.Slot1 G.K (He.ga G.K (clsN c)) f2 p 0)
    (hw1 : ∀ env, swapsWith (.Name n1 p3) (some (.Attribute (.Name "self" p1) f1 p2)) p4.line env = pure false) (hw2 : ∀ env, swapsWith (.Name n2 p7) (some (.Attribute (.Name "self" p5) f2 p6)) p8.line env = pure false)
    (hbody : ∀ (cdv : Value) (A : Around) (outer : List Env) (s : Shared) (H : Hp) (E : XK) (base : Nat) (x : Addr), Gs G k (sitI G N qual (defScope st) f cdv A outer s H E base x) →
      SS (sitI G N qual (defScope st) f cdv A outer s H E base x) s1 (m1 base) ∧ SS (sitI G N qual (defScope st) f cdv A outer s H E base x) s2 (m2 base)) :
    ∀ (A : Around) (outer : List Env) (s : Shared) (H : Hp) (us : List Value) (vs : List V) (Q : VK) (E : XK) (x dx : Addr), Room (k + 1) A → A.guards = some [] → H x = none → H dx = none → dx ≠ x →
      Env0 G.P G.w G.K G.mg G.base A outer s (upd (upd H dx (.own x)) x (.ins (He.ga G.K (clsN c)) dx [])) → Vals vs us → vs.length = 2 → spD G.K G.cad (mkInit N.length c 2 1 fun b => mSeq (m1 b) (m2 b)) vs H Q E →
      codeAny (model G.P G.w) A (.call (.ref f) ⟨.ref x :: us, []⟩) (CR (L2.CX G.P G.w) outer G.P G.w (upd (upd H dx (.own x)) x (.ins (He.ga G.K (clsN c)) dx [])) s (fun v H2 => v = .non ∧ Q (.ref x) H2) E) s := by
  obtain ⟨oc', od, dV, kV, doc, pm, an, cdv, ct, osl, rfl, lk, hcd, _, _⟩ := F.ex
  intro A outer s H us vs Q E x dx hr hgd nx nd dne e0 r hn hsp
  have rA : Vals (V.ref x :: vs) (Value.ref x :: us) := .cons rfl r
  refine LamX.run_ofS (ps := [PySem.Str.ofString "self", n1, n2]) (us := .ref x :: us) (vs := .ref x :: vs) lk hcd S hr e0 ?_ rA (by simp [hn]) fun hr' => ?_
  · have := hb s (.ref x :: us) (e0.mod.kin.keeps fun b o e => (e0.bs b o e).1) (by have := r.length; simp; omega)
    rw [List.append_nil] at this
    exact this
  obtain ⟨S0, A0, ds, c0, r0, q0⟩ := hsp
  have gs : Gs G k (sitI G N qual (defScope st) f cdv A outer s (upd (upd H dx (.own x)) x (.ins (He.ga G.K (clsN c)) dx [])) E S0.length x) :=
    ⟨rfl, rfl, rfl, rfl, rfl, rfl, hr', hgd, rfl, takes_of rfl rfl rfl rfl, fun c dd z => by obtain ⟨z, _⟩ := z; cases z⟩
  obtain ⟨h1, h2⟩ := hbody cdv A outer s _ E S0.length x gs
  obtain ⟨sp1, T1⟩ := T1
  obtain ⟨sp2, T2⟩ := T2
  generalize hHx : upd (upd H dx (.own x)) x (.ins (He.ga G.K (clsN c)) dx []) = Hx at *
  have eqx : ∀ b, b ≠ x → b ≠ dx → Hx b = H b := fun b z1 z2 => by rw [← hHx, upd_ne z1, upd_ne z2]
  have hxx : Hx x = some (.ins (He.ga G.K (clsN c)) dx []) := by rw [← hHx, upd_same]
  have hxd : Hx dx = some (.own x) := by rw [← hHx, upd_ne dne, upd_same]
  have sm : Same H Hx := fun b o h => by rw [eqx b (fun z => by rw [z, nx] at h; cases h) (fun z => by rw [z, nd] at h; cases h)]; exact h
  have dl : ds.length = 2 := by rw [← r0.length]; exact hn
  have vl : vs.length = 2 := hn
  have hNl : 3 ≤ N.length := by
    have := hN.2.2
    rcases Nat.lt_or_ge 2 N.length with z | z
    · exact z
    · rw [List.getElem?_eq_none z] at this; cases this
  let A' : Wy := ⟨A0.loc, fun a => A0.ph a ∨ a = x ∨ a = dx⟩
  have oC : ∀ S', OwC A' S' = OwC A0 S' := fun _ => rfl
  have oldx : ∀ b o, H b = some o → b ≠ x ∧ b ≠ dx := fun b o h => ⟨fun z => (by rw [z, nx] at h; cases h), fun z => (by rw [z, nd] at h; cases h)⟩
  have gr : Grow H (Own A0 S0) (Own A' S0) := fun a z => by
    rcases z with z | z | z | z
    · exact .inl (.inl z)
    · exact .inl (.inr z)
    · exact .inr (by rw [z]; exact nx)
    · exact .inr (by rw [z]; exact nd)
  have cx : Cells G.K A' S0 Hx := by
    refine ⟨fun n d h => (c0.at_ n d h).ext c0.owns (.of_same sm) gr fun o q => sm _ _ q, c0.inj, fun a z => ?_, fun a z w => ?_⟩
    · rcases z with z | z | z
      · obtain ⟨o, q, mu⟩ := c0.phs a z; exact ⟨o, sm _ _ q, mu⟩
      · exact ⟨_, by rw [z]; exact hxx, rfl⟩
      · exact ⟨_, by rw [z]; exact hxd, rfl⟩
    · have w : OwC A0 S0 a := w
      rcases z with z | z | z
      · exact c0.apart a z w
      · obtain ⟨o, q, _⟩ := c0.owns a (.inl w); rw [z, nx] at q; cases q
      · obtain ⟨o, q, _⟩ := c0.owns a (.inl w); rw [z, nd] at q; cases q
  have cn : Cn (sitI G N qual (defScope st) f cdv A outer s Hx E S0.length x) (some (.err 98 []) :: (ds.map some ++ List.replicate (N.length - 1 - ds.length) none)) (S0 ++ List.replicate N.length none) A' (L2.start N (.ref x :: vs)) Hx := by
    have rl : ∀ {vs : List V} {ds : List D}, RpL G.K Z0 A0 S0 H vs ds → ∀ (i : Nat) (d : D), ds[i]? = some d → ∃ v, vs[i]? = some v ∧ RpS G.K Z0 A0 S0 H v d := by
      intro vs ds r
      induction r with
      | nil => intro i d h; simp at h
      | cons r t ih =>
        intro i d h
        cases i with
        | zero => simp at h; subst h; exact ⟨_, rfl, r⟩
        | succ i => obtain ⟨v, h1, h2⟩ := ih i d (by simpa using h); exact ⟨v, by simpa using h1, h2⟩
    have get : ∀ (i : Nat) (d : D), (ds.map some ++ List.replicate (N.length - 1 - ds.length) none)[i]? = some (some d) → i < ds.length ∧ ds[i]? = some d := fun i d h => by
      by_cases hi : i < ds.length
      · rw [List.getElem?_append_left (by simpa using hi), List.getElem?_map] at h
        cases e : ds[i]? with
        | none => rw [e] at h; cases h
        | some y => rw [e] at h; cases h; exact ⟨hi, rfl⟩
      · rw [List.getElem?_append_right (by simpa using hi), List.getElem?_replicate] at h
        split at h <;> cases h
    refine ⟨fun i d h => ?_, cx.nones, fun i n h => ?_, ?_, ?_⟩
    · cases i with
      | zero =>
        simp only [List.getElem?_cons_zero, Option.some.injEq] at h
        subst h
        exact ⟨.ref x, rfl, .inr (.inr ⟨98, [], none, rfl, ⟨rfl, rfl, rfl⟩, .inl rfl⟩)⟩
      | succ i =>
        rw [List.getElem?_cons_succ] at h
        obtain ⟨hi, hd⟩ := get i d h
        obtain ⟨v, e1, e2⟩ := rl r0 i d hd
        refine ⟨v, ?_, ?_⟩
        · unfold L2.start
          rw [List.getElem?_append_left (by simp; omega), List.getElem?_map, List.getElem?_cons_succ, e1]
          rfl
        · have e3 : RpS G.K Z0 A' S0 Hx v d := by
            rcases e2 with ⟨n, y, z1, z2, z3⟩ | z | ⟨_, _, _, _, z, _⟩
            · exact .inl ⟨n, y, z1, z2, z3⟩
            · exact .inr (.inl (z.ext c0.owns (.of_same sm) gr))
            · exact z.elim
          exact e3.z0.nones
    · cases i with
      | zero => simp at h
      | succ i =>
        rw [List.getElem?_cons_succ] at h
        obtain ⟨hi, hd⟩ := get i _ h
        obtain ⟨v, e1, e2⟩ := rl r0 i _ hd
        rcases e2 with ⟨m, e, z3, z4, z5⟩ | e2 | ⟨_, _, _, _, z, _⟩
        · cases z3
          left
          rcases Nat.lt_or_ge n S0.length with z | z
          · exact z
          · rw [List.getElem?_eq_none z] at z5; cases z5
        · cases e2
        · exact z.elim
    · unfold L2.start
      simp [vl, dl]
      omega
    · show S0.length + _ ≤ _
      simp only [List.length_cons, List.length_append, List.length_map, List.length_replicate]
      omega
  rw [hbd]
  refine ⟨_, pss_cons h1 (pss_cons h2 (pss_cons (SlX.ps_sl (pe_var (i := 0) hN.1 hV.1) (pe_var (i := 1) hN.2.1 hV.2.1 hdb.1 hdb.2.2.1) (hw1 _)) (pss_one (SlX.ps_sl (pe_var (i := 0) hN.1 hV.1) (pe_var (i := 2) hN.2.2 hV.2.2 hdb.2.1 hdb.2.2.2) (hw2 _))))), ?_⟩
  refine seq_red (s := sitI G N qual (defScope st) f cdv A outer s Hx E S0.length x) (m := m1 S0.length) (n := m2 S0.length) ⟨_, _, A', cn, ?_⟩
  unfold mkInit at q0
  dsimp (config := { iota := false, zeta := false, proj := false }) only at q0
  cases eb : mSeq (m1 S0.length) (m2 S0.length) (some (.err 98 []) :: (ds.map some ++ List.replicate (N.length - 1 - ds.length) none)) (S0 ++ List.replicate N.length none) with
  | rt _ _ => rw [eb] at q0; exact q0.elim
  | bk _ _ => rw [eb] at q0; exact q0.elim
  | ct _ _ => rw [eb] at q0; exact q0.elim
  | bad => rw [eb] at q0; exact q0.elim
  | exc y fs ρ1 S1 =>
    rw [eb] at q0
    intro dd σ1 H1 A1 p1 c1 ex
    obtain ⟨pst, e24, tk⟩ := init_pst (H4 := H1) c0 nx nd eqx p1 c1.cells fun b o h _ _ => h
    exact q0 dd H1 pst (ex.ext c1.cells.owns e24 fun a z => .inl (tk a z))
  | nx ρ1 S1 =>
    rw [eb] at q0
    dsimp only at q0
    intro σ1 H1 A1 p1 c1
    cases e0 : slotP ρ1 2 with
    | none => rw [e0] at q0; exact q0.elim
    | some d0 =>
      cases e1 : slotP ρ1 1 with
      | none => rw [e0, e1] at q0; exact q0.elim
      | some d1 =>
        rw [e0, e1] at q0
        have slot : ∀ (i : Nat) (d : D), slotP ρ1 i = some d → ∃ v, σ1[i]? = some (some v) ∧ Rp G.K H1 (Own A1 S1) v d := fun i d h => by
          unfold slotP at h
          split at h
          · rename_i y hy
            split at h
            · rename_i hp
              simp only [Bool.and_eq_true] at hp
              cases h
              obtain ⟨v, g1, g2⟩ := c1.slot i y hy
              exact ⟨v, g1, (g2.plain hp.1).cool⟩
            · cases h
          · cases h
        obtain ⟨w0, s20, r20⟩ := slot 2 d0 e0
        obtain ⟨w1, s21, r21⟩ := slot 1 d1 e1
        have hself : σ1[0]? = some (some (.ref x)) ∧ FOut G.K G.cad A0 S0 H Q E (.ok (.obj c [d0, d1]) (S1.take S0.length)) := by
          split at q0
          · rename_i g0 g1 g2
            cases g0; cases g1
            obtain ⟨v, k1, k2⟩ := c1.slot 0 _ g2
            rcases k2 with ⟨_, _, z, _⟩ | z | ⟨c', fs', dd', z, ⟨z2, _⟩, _⟩
            · cases z
            · cases z
            · rw [← z2]; exact ⟨k1, q0⟩
          · exact q0.elim
        obtain ⟨hself, q0⟩ := hself
        have hx1 : H1 x = some (.ins (He.ga G.K (clsN c)) dx []) := p1.ext x _ hxx fun z => cx.apart x (.inr (.inl rfl)) (by rw [nones_own] at z; exact z)
        have hd1 : H1 dx = some (.own x) := p1.ext dx _ hxd fun z => cx.apart dx (.inr (.inr rfl)) (by rw [nones_own] at z; exact z)
        have sl0 : SlX.Slt H1 x (He.ga G.K (clsN c)) dx [] := .inl ⟨hx1, rfl⟩
        have sl1 : SlX.Slt (SlX.slH H1 x (He.ga G.K (clsN c)) dx (SlX.putS 1 w1 [])) x (He.ga G.K (clsN c)) dx (SlX.putS 1 w1 []) := SlX.slH_slt dne
        refine ⟨w1, s21, .ref x, hself, x, _, dx, sp1, [], 1, rfl, sl0, oc.s, T1, ?_⟩
        refine ⟨w0, s20, .ref x, hself, x, _, dx, sp2, _, 0, rfl, sl1, oc.s, T2, rfl, ?_⟩
        rw [SlX.slH_twice dne]
        obtain ⟨pst, e24, tk⟩ := init_pst (H4 := SlX.slH H1 x (He.ga G.K (clsN c)) dx (SlX.putS 0 w0 (SlX.putS 1 w1 []))) c0 nx nd eqx p1 c1.cells fun b o h z1 z2 => by rw [SlX.slH_ne z1 z2]; exact h
        refine q0 (.ref x) _ pst (.inr (.inl (.obj (vs := [w0, w1]) ⟨dx, ?_, ?_⟩ (.cons (r20.ext c1.cells.owns e24 fun a z => .inl (tk a z)) (.cons (r21.ext c1.cells.owns e24 fun a z => .inl (tk a z)) .nil))))) (.old rfl)
        · unfold SlX.slH; rw [upd_same]; rfl
        · unfold SlX.slH; rw [upd_ne dne, upd_same]
end
end Dv

set_option maxHeartbeats 4000000
/-! a law's end, with tables of code objects as the lowest cells -/
namespace Dv
open PySem PySem.Spec PyProof.Rows L2
set_option autoImplicit false
def tabS (tf : List Str) : Store := tf.map fun x => some (.tab x)
def True63T (tf : List Str) (n : Nat) (m : Fn) : Prop := ∀ ns : List Int, ns.length ≤ n → ∃ S', m [.rol (ns.map .int)] (tabS tf) = .ok (.bl true) S'
def AT (K : PySem.W.Frag) (tf : List Str) : Wy := ⟨fun n => match tf[n]? with | some x => tA K x | none => 0, fun _ => False⟩
theorem tabS_get {tf : List Str} {n : Nat} {d : D} (h : (tabS tf)[n]? = some (some d)) : ∃ x, tf[n]? = some x ∧ d = .tab x := by
  unfold tabS at h
  rw [List.getElem?_map] at h
  cases e : tf[n]? with
  | none => rw [e] at h; cases h
  | some x => rw [e] at h; cases h; exact ⟨x, rfl, rfl⟩
theorem cellsT {K : PySem.W.Frag} {H : Hp} {tf : List Str} (hH : ∀ x ∈ tf, H (tA K x) = some (.tbl #[])) (nd : (tf.map (tA K)).Nodup) : Cells K (AT K tf) (tabS tf) H := by
  refine ⟨fun n d h => ?_, fun n m d e h h' z => ?_, fun a z => z.elim, fun a z => z.elim⟩
  · obtain ⟨x, e, rfl⟩ := tabS_get h
    have l : (AT K tf).loc n = tA K x := by show (match tf[n]? with | some x => tA K x | none => 0) = _; rw [e]
    rw [l]
    exact .tab rfl (.nil (hH x (List.mem_of_getElem? e)))
  · obtain ⟨x, e1, _⟩ := tabS_get h
    obtain ⟨y, e2, _⟩ := tabS_get h'
    have z : (match tf[n]? with | some x => tA K x | none => 0) = (match tf[m]? with | some x => tA K x | none => 0) := z
    rw [e1, e2] at z
    have g1 : (tf.map (tA K))[n]? = some (tA K x) := by rw [List.getElem?_map, e1]; rfl
    have g2 : (tf.map (tA K))[m]? = some (tA K x) := by rw [List.getElem?_map, e2]; simp [z]
    obtain ⟨h1, k1⟩ := List.getElem?_eq_some_iff.mp g1
    obtain ⟨h2, k2⟩ := List.getElem?_eq_some_iff.mp g2
    have pw := List.pairwise_iff_getElem.mp nd
    rcases Nat.lt_trichotomy n m with c | c | c
    · exact absurd (k1.trans k2.symm) (pw n m h1 h2 c)
    · exact c
    · exact absurd (k2.trans k1.symm) (pw m n h2 h1 c)
theorem law_callT {P : Program} {w : World} {K : PySem.W.Frag} {mg mb : Str → Option Value} {cad : Nat → Addr} {k : Nat} {fa a : Addr} {m : Fn} {tf : List Str} {s₁ : Shared} {vs : List Value} {ns : List Int}
    (KX : K.In s₁.heap) (hns : s₁.heap.Ns mainGlobals mg) (hb : s₁.heap.Ns builtinsNs mb) (hbb : ∀ x : Str, x ≠ "__name__" → mb x = bootBuiltins x) (hlim : s₁.heap.NoLimit) (hg : s₁.gens = #[])
    (hT : ∀ x ∈ tf, s₁.heap.get? (tA K x) = some { cls := .none, data := .fields #[] }) (nT : ∀ x ∈ tf, K.lookup (tA K x) = none) (nd : (tf.map (tA K)).Nodup) (C : ∀ x ∈ tf, PySem.W.CodeHd s₁.heap (He.codeOf K (x, none)) (tA K x))
    (hbm : ∃ (bm : Addr) (ob : Obj), mg "__builtins__" = some (.ref bm) ∧ bm ≠ builtinsNs ∧ s₁.heap.get? bm = some ob ∧ ob.cls = .type "module" ∧ ob.dict = some builtinsNs ∧ ob.data = .plain)
    (ha : s₁.heap.get? a = some { cls := .type "list", data := .seq vs.toArray }) (hi : IntsAre vs ns) (hl : ns.length ≤ sizeLine) (hr : Room k callerA)
    (F : ∀ base : Heap, K.In base → base.Ns mainGlobals mg → (∀ x ∈ tf, LamX.TabB base mg (He.codeOf K (x, none)) (tA K x)) → FnD ⟨P, w, K, mg, base, cad⟩ k fa 1 m) (hm : ∃ S', m [.rol (ns.map .int)] (tabS tf) = .ok (.bl true) S') :
    codeAny (model P w) callerA (.call (.ref fa) ⟨[.ref a], []⟩) (fun r s' => r = .ok (.ret (.bool true)) ∧ OldK s₁.heap s'.heap ∧ s'.os = s₁.os ∧ AllBare s'.gens) s₁ := by
  have rv := vals_ints hi
  have lenV := hi.length
  have isT : ∀ b : Addr, b ∈ tf.map (tA K) → s₁.heap.get? b = some { cls := .none, data := .fields #[] } := fun b hb => by
    obtain ⟨x, hx, rfl⟩ := List.mem_map.mp hb
    exact hT x hx
  have aT : a ∉ tf.map (tA K) := fun z => by
    have q := isT a z
    rw [ha] at q
    exact nomatch (show Data.seq vs.toArray _ = Data.fields #[] from congrArg Obj.data (Option.some.inj q))
  have memT : ∀ x ∈ tf, tA K x ∈ tf.map (tA K) := fun x hx => List.mem_map.mpr ⟨x, hx, rfl⟩
  have core : ∀ H : Hp, (∀ x ∈ tf, H (tA K x) = some (.tbl #[])) → (∀ b, H b = none ∨ b ∈ tf.map (tA K) ∨ ∃ o xs, H b = some (.frz o (.lst xs))) → Ro K H a (ns.map V.int) → HOk P w H s₁.heap → (∀ b, H b ≠ none → b = a ∨ b ∈ tf.map (tA K)) → (H a ≠ none → K.lookup a = none) →
      codeAny (model P w) callerA (.call (.ref fa) ⟨[.ref a], []⟩) (fun r s' => r = .ok (.ret (.bool true)) ∧ OldK s₁.heap s'.heap ∧ s'.os = s₁.os ∧ AllBare s'.gens) s₁ := by
    intro H hH hO hS hok hA hK
    have base_of : ∀ {b : Addr} {o : Obj}, s₁.heap.get? b = some o → H b = none → (hidT s₁.heap H).get? b = some o := fun e n => hidT_get e n
    have noD : ∀ {b : Addr} {o : Obj}, s₁.heap.get? b = some o → (∀ vs n, o.data ≠ .seq vs n) → o.data ≠ .fields #[] → H b = none := fun {b o} e h1 h2 => Classical.byContradiction fun z => by
      rcases hA b z with e' | e'
      · rw [e', ha] at e; cases e; exact h1 _ _ rfl
      · rw [isT b e'] at e; cases e; exact h2 rfl
    have noA : ∀ {b : Addr} {o : Obj} {es : Array DictEntry} {ep : Nat}, s₁.heap.get? b = some o → o.data = .dict es ep → H b = none := fun e d => noD e (fun vs n z => by rw [d] at z; cases z) fun z => by rw [d] at z; cases z
    have nsK : ∀ {b : Addr} {m : Str → Option Value}, s₁.heap.Ns b m → (hidT s₁.heap H).Ns b m := fun ⟨o, es, ep, e, d, r⟩ => ⟨o, es, ep, base_of e (noA e d), d, r⟩
    have hKb : K.In (hidT s₁.heap H) := fun b o e => base_of (KX b o e) (Classical.byContradiction fun z => by
      rcases hA b z with e' | e'
      · rw [e'] at e z; rw [hK z] at e; cases e
      · obtain ⟨x, hx, rfl⟩ := List.mem_map.mp e'
        rw [nT x hx] at e; cases e)
    have hM : Mod K mg (hidT s₁.heap H) := ⟨hKb, nsK hns, ⟨mb, nsK hb, hbb⟩, let ⟨mc, h1, h2⟩ := hlim; ⟨mc, nsK h1, h2⟩⟩
    have TB : ∀ x ∈ tf, LamX.TabB (hidT s₁.heap H) mg (He.codeOf K (x, none)) (tA K x) := fun x hx => by
      have hTx := hT x hx
      have nG : mainGlobals ≠ tA K x := fun z => by
        obtain ⟨o, es, ep, e, hd, _⟩ := hns
        rw [z, hTx] at e; cases e; cases hd
      refine ⟨?_, ?_, nG⟩
      · obtain ⟨o, us, file, tf', flags, tg, inF, text, tt, e1, r1, r2, r3, r4, r5, r6, r7, r8, hne⟩ := C x hx
        exact ⟨o, us, file, tf', flags, tg, inF, text, tt, base_of e1 (noD e1 (fun vs n z => by rw [r2] at z; cases z) fun z => by rw [r2] at z; cases z; simp at r3), r1, r2, r3, r4, r5, r6, r7, r8, hne⟩
      · obtain ⟨bm, ob, b1, b2, b3, b4, b5, b6⟩ := hbm
        refine ⟨bm, ob, b1, b2, fun q => ?_, fun q => ?_, base_of b3 (noD b3 (fun vs n z => by rw [b6] at z; cases z) fun z => by rw [b6] at z; cases z), b4, b5, b6⟩
        · obtain ⟨o, es, ep, e, hd, _⟩ := hns
          rw [q, e] at b3; cases b3; rw [hd] at b6; cases b6
        · rw [q, hTx] at b3; cases b3; cases b6
    have e0 : Env0 P w K mg (hidT s₁.heap H) callerA [] s₁ H := ⟨rfl, hM, fun b o e => of_hidT e, Nat.le_of_eq (hidT_size _ _), trivial, fun b hb => absurd (show b ∈ ([] : List Addr) from hb) (by simp), hok, .of_eq hg⟩
    obtain ⟨S', hm⟩ := hm
    have cs := cellsT (K := K) hH nd
    have sp : spD K cad m [.ref a] H (fun v _ => v = .bl true) (fun _ _ _ => False) := by
      refine ⟨tabS tf, AT K tf, [.rol (ns.map .int)], cs, .cons (.inr (.inl (.rol hS (rpAll_ints ns)))) .nil, ?_⟩
      rw [hm]
      intro v H' _ r _
      rcases r with ⟨_, _, z, _⟩ | r | ⟨_, _, _, z, _⟩
      · cases z
      · cases r; rfl
      · cases z
    refine codeAny_mono (F _ hKb (nsK hns) TB callerA [] s₁ H [.ref a] [.ref a] _ _ hr rfl e0 (.cons rfl .nil) rfl sp) fun r s' h => ?_
    cases r with
    | error e =>
      obtain ⟨_, _, _, _, _, _, _, _, _, _, _, _, z⟩ := h
      exact z.elim
    | ok fl =>
      cases fl with
      | next => exact False.elim h
      | brk => exact False.elim h
      | cont => exact False.elim h
      | ret u =>
        obtain ⟨v, H', os, bare, un, hok', r', q⟩ := h
        have q' : v = .bl true := q
        subst q'
        obtain rfl : u = Value.bool true := r'
        have key : ∀ b o, b ∉ tf.map (tA K) → s₁.heap.get? b = some o → s'.heap.get? b = some o := fun b o nb e => by
          rcases hO b with z | z | ⟨ob, xs, z⟩
          · exact un.keep b o e z (by intro y; exact absurd (show b ∈ ([] : List Addr) from y) (by simp)) (by simp)
          · exact absurd z nb
          · obtain ⟨e1, _⟩ := hok b _ z
            obtain ⟨e2, _⟩ := hok' b _ (un.frzs b ob _ z)
            rw [e] at e1; cases e1
            exact e2
        have grown : ∀ x ∈ tf, ∃ more : Array Value, s'.heap.get? (tA K x) = some { cls := .none, data := .fields more } := fun x hx => by
          obtain ⟨more, z⟩ := un.tbls _ #[] (hH x hx)
          exact ⟨_, hok' _ _ z⟩
        refine ⟨rfl, ⟨fun b o e => ?_, fun b o e => ?_⟩, os, bare⟩
        · by_cases hb : b ∈ tf.map (tA K)
          · obtain ⟨x, hx, rfl⟩ := List.mem_map.mp hb
            obtain ⟨more, hm⟩ := grown x hx
            rw [hT x hx] at e
            cases e
            exact .inr (.inl ⟨((C x hx).tab (hT x hx)).isCodeTable, rfl, #[], more, rfl, by rw [Array.empty_append]; exact hm⟩)
          · exact .inl (key b o hb e)
        · by_cases hb : b ∈ tf.map (tA K)
          · obtain ⟨x, hx, rfl⟩ := List.mem_map.mp hb
            obtain ⟨more, hm⟩ := grown x hx
            exact ⟨_, hm⟩
          · exact ⟨o, key b o hb e⟩
  cases hk : K.lookup a with
  | some o =>
    have e := KX a o hk
    rw [ha] at e
    cases e
    refine core (fun b => if b ∈ tf.map (tA K) then some (.tbl #[]) else none) (fun x hx => if_pos (memT x hx)) (fun b => ?_) (.inr ⟨_, vs.toArray, _, hk, rfl, rfl, rfl, by rw [List.size_toArray, lenV]; exact hl, by simpa using rv⟩) (fun b u z => ?_) (fun b z => ?_)
      fun z => absurd (show (if a ∈ tf.map (tA K) then some (HO.tbl #[]) else none) = none from if_neg aT) z
    · by_cases hb : b ∈ tf.map (tA K)
      · exact .inr (.inl hb)
      · exact .inl (if_neg hb)
    · by_cases hb : b ∈ tf.map (tA K)
      · have z' := (if_pos hb).symm.trans z
        cases z'
        exact isT b hb
      · have z' := (if_neg hb).symm.trans z
        cases z'
    · by_cases hb : b ∈ tf.map (tA K)
      · exact .inr hb
      · exact absurd (if_neg hb) z
  | none =>
    refine core (fun b => if b = a then some (.frz { cls := .type "list", data := .seq vs.toArray } (.lst (ns.map V.int))) else if b ∈ tf.map (tA K) then some (.tbl #[]) else none) (fun x hx => (if_neg (fun z => aT (by rw [← z]; exact memT x hx))).trans (if_pos (memT x hx))) (fun b => ?_)
      (.inl ⟨{ cls := .type "list", data := .seq vs.toArray }, if_pos rfl⟩) (fun b u z => ?_) (fun b z => ?_) fun _ => hk
    · by_cases hb : b = a
      · exact .inr (.inr ⟨_, _, if_pos hb⟩)
      · by_cases hb2 : b ∈ tf.map (tA K)
        · exact .inr (.inl hb2)
        · exact .inl ((if_neg hb).trans (if_neg hb2))
    · by_cases hb : b = a
      · have z' := (if_pos hb).symm.trans z
        cases z'
        rw [hb]
        exact ⟨ha, by rw [List.length_map]; exact hl, vs, _, rv, ha⟩
      · have z1 := (if_neg hb).symm.trans z
        by_cases hb2 : b ∈ tf.map (tA K)
        · have z' := (if_pos hb2).symm.trans z1
          cases z'
          exact isT b hb2
        · have z' := (if_neg hb2).symm.trans z1
          cases z'
    · by_cases hb : b = a
      · exact .inl hb
      · by_cases hb2 : b ∈ tf.map (tA K)
        · exact .inr hb2
        · exact absurd ((if_neg hb).trans (if_neg hb2)) z
theorem walk_T {l : PySem.W.OpenLaw} {n k : Nat} {q : Program} {loose : List Str} {XP : (Str → Option Value) → Heap → Prop} {YP : World → Heap → Prop} {d : DefRec} {m : Fn} {tf : List Str}
    (hn : l.most = some n) (hn2 : n ≤ sizeLine) (hdf : d.params.defaults = []) (hr : Room k callerA) (hm : True63T tf n m)
    (F : ∀ (w : World) (mg : Str → Option Value) (fa : Addr) (h : Heap), YP w h → h.Ns mainGlobals mg → mg d.name = some (.ref fa) →
      ∃ (K : PySem.W.Frag) (cad : Nat → Addr), K.In h ∧ (∀ x ∈ tf, h.get? (tA K x) = some { cls := .none, data := .fields #[] }) ∧ (∀ x ∈ tf, K.lookup (tA K x) = none) ∧ (tf.map (tA K)).Nodup ∧ (∀ x ∈ tf, PySem.W.CodeHd h (He.codeOf K (x, none)) (tA K x)) ∧
        ∀ base : Heap, K.In base → base.Ns mainGlobals mg → (∀ x ∈ tf, LamX.TabB base mg (He.codeOf K (x, none)) (tA K x)) → FnD ⟨l.prog, w, K, mg, base, cad⟩ k fa 1 m) :
    PySem.W.WalkO q loose XP YP l.row.toRowW d [] (fun f vs => PySem.call f vs) := by
  refine Att.attach_call hn hdf fun w s₀ s₁ mg mb fa o pm cd doc a vs ns G Y ho hd hcd hmg hobj hints hlen hg => ?_
  obtain ⟨K, cad, KX, h1, h2, h3, h4, hF⟩ := F w mg fa _ Y G.T.g hmg
  exact law_callT KX G.T.g G.T.b G.T.builtins G.T.nolimit hg h1 h2 h3 h4 G.T.bmain hobj hints (Nat.le_trans hlen hn2) hr hF (hm ns hlen)
end Dv

set_option maxHeartbeats 4000000
/-! C(..) called; xs * n; x is True -/
namespace Dv
open PySem PySem.Spec PyProof.Rows L2
set_option autoImplicit false
/-- an __init__ that keeps to m -/
def InitD (G : Gd) (k c : Nat) (f : Addr) (m : Fn) : Prop :=
  ∀ (A : Around) (outer : List Env) (s : Shared) (H : Hp) (us : List Value) (vs : List V) (Q : VK) (E : XK) (x dx : Addr), Room k A → A.guards = some [] → H x = none → H dx = none → dx ≠ x →
    Env0 G.P G.w G.K G.mg G.base A outer s (upd (upd H dx (.own x)) x (.ins (He.ga G.K (clsN c)) dx [])) → Vals vs us → vs.length = 2 → spD G.K G.cad m vs H Q E →
    codeAny (model G.P G.w) A (.call (.ref f) ⟨.ref x :: us, []⟩) (CR (L2.CX G.P G.w) outer G.P G.w (upd (upd H dx (.own x)) x (.ins (He.ga G.K (clsN c)) dx [])) s (fun v H2 => v = .non ∧ Q (.ref x) H2) E) s
section
variable {s : Sit} {G : Gd} {j k c : Nat} {f : Addr} {m : Fn} {e : Expr} {es : List Expr} {a : MA} {p pos : Pos} {nm : Str}
theorem se_mk (g : Gs G j s) (hj : k + 1 ≤ j) (oc : OCls G c) (M : Mk G.K (He.ga G.K (clsN c)) f) (hI : InitD G k c f m) (hn : nm = clsN c) (hg : Gl s.X nm) (ha : SA s (e :: es) a)
    (hdb : (nm == ("__debug__" : Str)) = false := by decide) (he : starEach (e :: es) s.X.env = (false, eval e s.X.env) :: starEach es s.X.env := by rfl) (hpl : (backTo pos (starEach es s.X.env)).any (·.1) = false := by rfl) :
    SE s (.Call (.Name nm p) (e :: es) [] pos) (mCall m 2 a) := by
  subst hn
  refine ⟨fun pins sh σ H Q I q => ?_⟩
  refine wpAny_Call_Name_kw (ld_glob I hg (by rw [g.mg]; exact oc.g) ?_ hdb)
  refine PySem.W.callWith_K (h₀ := s.X.base) I.ok.mod.kin (by rw [g.K]; exact M.kp) (thn (ha.run pos pins sh σ H _ I (call_red g q)) fun us s1 ⟨vs, H1, I1, r, q1⟩ => ⟨I1.kIn, ?_⟩) he hpl
  obtain ⟨hl, q1⟩ := q1
  have I2 := Inv.made (C := He.ga G.K (clsN c)) I1
  have nx : H1 (s1.heap.objs.size + 1) = none := I1.hok.fresh (Nat.le_succ _)
  have nd : H1 s1.heap.objs.size = none := I1.hok.fresh (Nat.le_refl _)
  have hr : Room (k + 1) s.X.A := g.room.mono hj
  have e0 := I2.env0.make (He.ga G.K (clsN c)) us []
  have run := hI (s.X.A.under (.builtin "type.__call__" ⟨.ref (He.ga G.K (clsN c)) :: us, []⟩)) s.X.stack _ H1 us vs Q (fun c d H => s.W c d σ H) (s1.heap.objs.size + 1) s1.heap.objs.size (hr.make _ us []) (under_guards g.guards) nx nd (Nat.ne_of_lt (Nat.lt_succ_self _)) (by rw [g.P, g.w, g.K, g.mg, g.base] at e0; exact e0) r hl q1
  rw [← g.P, ← g.w] at run
  refine wpAny_call (make_map (f := f) I1.kIn (by rw [g.K]; exact M.makes) (by rw [g.K]; exact M.init) (by rw [g.K]; exact beq_iff_eq.mp M.fn) (codeAny_mono run fun r' s' hq => ?_))
  cases r' with
  | error e => exact g.takes e s' (XE.of_call I2 (fun _ _ _ h => h) hq)
  | ok fl =>
    cases fl with
    | ret u =>
      obtain ⟨v, H', I3, rv, ev, q3⟩ := I2.after hq
      subst ev
      exact ⟨rv, ⟨V.ref (s1.heap.objs.size + 1), H', I3, rfl, q3⟩⟩
    | next => exact False.elim hq
    | brk => exact False.elim hq
    | cont => exact False.elim hq
end
/-! ### xs * n -/
def repN (n : Nat) (xs : List D) : List D := (List.replicate n xs).flatten
def dMulX (S : Store) (d e : D) : Option D := match vw S d, vw S e with
  | .lst _ xs, .int k => if 0 ≤ k ∧ k ≤ 100000 ∧ xs.length * k.toNat ≤ 16777216 then some (.lst true (repN k.toNat xs)) else none
  | .tup xs, .int k => if 2 ≤ k ∧ k ≤ 1000 ∧ xs.length ≤ 1000 ∧ 0 < xs.length then some (.tup (repN k.toNat xs)) else none
  | _, _ => dMul S d e
/-! ### x is True -/
def dIsB (S : Store) (d e : D) : Option D := match vw S d, vw S e with
  | .bl a, .bl b => some (.bl (decide (a = b)))
  | _, _ => none
section
variable {s : Sit}
theorem sem_isB : OpSem s dIsB rIsB := by
  intro A S H v w d e x Q c rd re hf q
  unfold dIsB at hf
  split at hf
  · rename_i a b e1 e2
    cases hf
    exact ⟨a, b, (rd.as c e1).bl, (re.as c e2).bl, old_of (.bl _) rfl q⟩
  · cases hf
end
end Dv

set_option maxHeartbeats 4000000
/-! comprehensions with two clauses -/
namespace Dv
open PySem PySem.Spec PyProof.Rows L2
set_option autoImplicit false
def compL2 (t : Tg) (test : MT) (src1 : Src) (vs1 : List Nat) (t1 : Tg) (test1 : MT) (elt : ME) (ρ : Rho) : List D → Store → Res (List D)
  | [], S => .ok [] S
  | d :: ds, S => match t d ρ with
    | none => .bad
    | some ρ1 => match test ρ1 S with
      | .ok b S1 => if b then (match src1 ρ1 S1 with
        | .ok es S2 => (match compL t1 test1 elt (wipeR ρ1 vs1) es S2 with
          | .ok xs S3 => (match compL2 t test src1 vs1 t1 test1 elt ρ ds S3 with
            | .ok ys S4 => .ok (xs ++ ys) S4
            | _ => .bad)
          | _ => .bad)
        | _ => .bad) else compL2 t test src1 vs1 t1 test1 elt ρ ds S1
      | _ => .bad
def mComp2 (src : Src) (vs : List Nat) (t : Tg) (test : MT) (src1 : Src) (vs1 : List Nat) (t1 : Tg) (test1 : MT) (elt : ME) : ME := fun ρ S => (src ρ S).bind fun ds S1 => match compL2 t test src1 vs1 t1 test1 elt (wipeR ρ vs) ds S1 with
  | .ok ys S2 => if ys.length ≤ LINE then .ok (.lst true ys) S2 else .bad
  | _ => .bad
/-- the world of a loop that fills the new list Dd -/
structure Fil (s : Sit) (A A' : Wy) (S1 : Store) (H1 : Hp) (Dd : Addr) (ρ : Rho) (σ : L2.St) (S' : Store) (H' : Hp) (ac : List V) (dn : List D) : Prop where
  acc : H' Dd = some (.lst ac)
  racc : RpAll s.X.K H' (Own A' S') ac dn
  ext : Ext (OwC A S1) H1 H'
  lv : Lives S1 S'
  ln : S'.length = S1.length
  cn : Cn s ρ S' A' σ H'
section
variable {s : Sit} {A A' : Wy} {S1 S' S2 : Store} {H1 H' H2 : Hp} {Dd : Addr} {ρ ρ2 : Rho} {σ σ2 : L2.St} {acc : List V} {dn : List D}
theorem Fil.step (f : Fil s A A' S1 H1 Dd ρ σ S' H' acc dn) (hl : A'.loc = A.loc) (hp : A'.ph Dd) (p : Pst s.X.K A' S' H' S2 H2) : Fil s A A' S1 H1 Dd ρ σ S2 H2 acc dn := by
  have oC : OwC A' S' = OwC A S1 := by rw [← f.lv.ownC A]; unfold OwC; rw [hl]
  exact ⟨p.ext _ _ f.acc (f.cn.cells.apart Dd hp), f.racc.step f.cn.cells p, fun a o h n => p.ext a o (f.ext a o h n) (by rw [oC]; exact n), f.lv.trans p.lives, p.len.trans f.ln, f.cn.step p⟩
theorem Fil.slots (f : Fil s A A' S1 H1 Dd ρ σ S' H' acc dn) (c : Cn s ρ2 S' A' σ2 H') : Fil s A A' S1 H1 Dd ρ2 σ2 S' H' acc dn := ⟨f.acc, f.racc, f.ext, f.lv, f.ln, c⟩
theorem Fil.push {y : V} {x : D} (f : Fil s A A' S1 H1 Dd ρ σ S' H' acc dn) (hD : H1 Dd = none) (hp : A'.ph Dd) (r : Rp s.X.K H' (Own A' S') y x) : Fil s A A' S1 H1 Dd ρ σ S' (upd H' Dd (.lst (acc ++ [y]))) (acc ++ [y]) (dn ++ [x]) := by
  have own5 : Own A' S' Dd := .inr hp
  have e5 : Ext (Own A' S') H' (upd H' Dd (.lst (acc ++ [y]))) := fun a o h n => by
    rw [upd_ne (fun z => n (by rw [z]; exact own5))]
    exact h
  refine ⟨upd_same, (f.racc.append (.cons r .nil)).ext f.cn.cells.owns e5 (.refl _ _), fun a o h n => ?_, f.lv, f.ln, ?_⟩
  · rw [upd_ne (ne_of_none h hD)]; exact f.ext a o h n
  · refine f.cn.move (s' := s) rfl rfl rfl e5 (.refl _ _) rfl (.refl _) rfl ⟨fun n d h => ?_, f.cn.cells.inj, fun a z => ?_, f.cn.cells.apart⟩
    · refine (f.cn.cells.at_ n d h).ext f.cn.cells.owns e5 (.refl _ _) fun o q => ?_
      rw [upd_ne (fun z => f.cn.cells.apart Dd hp ⟨n, d, h, z⟩)]; exact q
    · by_cases hz : a = Dd
      · rw [hz]; exact ⟨_, upd_same, rfl⟩
      · rw [upd_ne hz]; exact f.cn.cells.phs a z
end
section
variable {s : Sit}
theorem comp2_red {src src1 : Src} {vs vs1 : List Nat} {t t1 : Tg} {test test1 : MT} {elt : ME} {Q : VK} {wi wi1 : TI} {g g1 : TG} {tt tt1 : TT} {te : TE} (hs1 : ∀ i ∈ vs1, i ∈ vs)
    (hwi : ∀ σ H R, tDi s src σ H R → wi σ H R)
    (hwi1 : ∀ σ H R, tDi s.mute src1 σ H R → wi1 σ H R)
    (hg : ∀ v σ H Q, tDg s.mute vs t v σ H Q → g v σ H Q) (hg1 : ∀ v σ H Q, tDg s.mute vs1 t1 v σ H Q → g1 v σ H Q)
    (ht : ∀ σ H Q, tDt s.mute test σ H Q → tt σ H Q) (ht1 : ∀ σ H Q, tDt s.mute test1 σ H Q → tt1 σ H Q)
    (he : ∀ σ H Q, tD s.mute elt σ H Q → te σ H Q)
    {σ : L2.St} {H : Hp} (q : tD s (mComp2 src vs t test src1 vs1 t1 test1 elt) σ H Q) : tLc2 wi g tt wi1 g1 tt1 te vs vs1 σ H Q := by
  obtain ⟨ρ, S, A, c, q⟩ := q
  refine hwi _ _ _ ⟨ρ, S, A, c, ?_⟩
  unfold mComp2 at q
  cases es : src ρ S with
  | exc x fs S1 => rw [es] at q; intro dd H1 p z; exact q dd H1 p z
  | bad => rw [es] at q; exact q
  | ok ds S1 =>
  rw [es] at q
  dsimp only [bind_ok] at q
  intro J H1 p1 it Dd hD
  have c1 := c.step p1
  let A' : Wy := ⟨A.loc, fun a => A.ph a ∨ a = Dd⟩
  let sb : Sit := s.mute
  have pD : A'.ph Dd := .inr rfl
  have dOwn : ¬ Own A S1 Dd := own_some c1.cells hD
  have oO : ∀ S' a, Own A' S' a ↔ Own A S' a ∨ a = Dd := fun S' a => by
    constructor
    · rintro (z | z | z)
      · exact .inl (.inl z)
      · exact .inl (.inr z)
      · exact .inr z
    · rintro ((z | z) | z)
      · exact .inl z
      · exact .inr (.inl z)
      · exact .inr (.inr z)
  have gD : ∀ {S'}, Lives S1 S' → Grow H1 (Own A S1) (Own A' S') := fun {S'} l a z => by
    rcases (oO S' a).mp z with z | z
    · exact .inl (by rw [← l.own A]; exact z)
    · exact .inr (by rw [z]; exact hD)
  cases ec : compL2 t test src1 vs1 t1 test1 elt (wipeR ρ vs) ds S1 with
  | exc _ _ _ => rw [ec] at q; exact q.elim
  | bad => rw [ec] at q; exact q.elim
  | ok ys Sf =>
  rw [ec] at q
  dsimp only at q
  split at q
  case isFalse => exact q.elim
  rename_i hlen
  refine ⟨fun i m H' => ∃ S' accV dn rest, m = ds.length - i ∧ i ≤ ds.length ∧ dn ++ rest = ys ∧ compL2 t test src1 vs1 t1 test1 elt (wipeR ρ vs) (ds.drop i) S' = .ok rest Sf ∧ Fil sb A A' S1 H1 Dd (wipeR ρ vs) (wipe σ vs) S' H' accV dn,
    ⟨ds.length, S1, [], [], ys, rfl, Nat.zero_le _, rfl, ec, upd_same, .nil, fun a o h n => by rw [upd_ne (ne_of_none h hD)]; exact h, .refl _, rfl, ?_⟩, ?_⟩
  · refine (c1.wiped vs).move (s := s) (s' := sb) rfl rfl rfl (Ext.of_same (same_upd hD)) (gD (.refl _)) rfl (.refl _) rfl ⟨fun n d h => ?_, c1.cells.inj, fun a z => ?_, fun a z => ?_⟩
    · exact (c1.cells.at_ n d h).ext c1.cells.owns (.of_same (same_upd hD)) (gD (.refl _)) fun o q => same_upd hD _ _ q
    · rcases z with z | z
      · obtain ⟨o, q1, q2⟩ := c1.cells.phs a z
        exact ⟨o, same_upd hD _ _ q1, q2⟩
      · exact ⟨.lst [], by rw [z]; exact upd_same, rfl⟩
    · rcases z with z | z
      · exact c1.cells.apart a z
      · intro w; rw [z] at w; exact dOwn (.inl w)
  rintro i m H' ⟨S', accV, dn, rest, rfl, hi, hys, hc', f⟩
  obtain ⟨go, stop⟩ := it A' S' H' f.ext.own (gD f.lv) f.cn.cells
  by_cases hlt : i < ds.length
  · refine .inr ?_
    have hd : ds[i]? = some ds[i] := List.getElem?_eq_getElem hlt
    obtain ⟨g1', g2'⟩ := go i ds[i] hd
    rw [List.drop_eq_getElem_cons hlt] at hc'
    simp only [compL2] at hc'
    refine ⟨g1', fun H' => ∃ S' accV dn rest, i + 1 ≤ ds.length ∧ dn ++ rest = ys ∧ compL2 t test src1 vs1 t1 test1 elt (wipeR ρ vs) (ds.drop (i + 1)) S' = .ok rest Sf ∧ Fil sb A A' S1 H1 Dd (wipeR ρ vs) (wipe σ vs) S' H' accV dn, ?_, fun x H2 hy => ?_⟩
    · rintro H2 ⟨S2, a2, d2, r2, h1, h2, h3, h4⟩
      exact ⟨ds.length - (i + 1), by omega, S2, a2, d2, r2, rfl, h1, h2, h3, h4⟩
    · obtain ⟨sm, rx⟩ := g2' x H2 hy
      have p2 : Pst s.X.K A' S' H' S' H2 := .of_same f.cn.cells sm
      have f2 := f.step rfl pD p2
      cases ht' : t ds[i] (wipeR ρ vs) with
      | none => rw [ht'] at hc'; cases hc'
      | some ρ1 =>
      rw [ht'] at hc'
      dsimp only at hc'
      refine hg _ _ _ _ ⟨wipeR ρ vs, S', A', ds[i], ρ1, f2.cn, rx, ht', fun σ2 t2 cb3 => ⟨wipe_touch t2, ?_⟩⟩
      cases htt : test ρ1 S' with
      | exc _ _ _ => rw [htt] at hc'; cases hc'
      | bad => rw [htt] at hc'; cases hc'
      | ok b S3 =>
      rw [htt] at hc'
      dsimp only at hc'
      refine ht _ _ _ ⟨ρ1, S', A', cb3, ?_⟩
      rw [htt]
      intro H3 p3
      have f3 := f2.step rfl pD p3
      have cb4 : Cn sb ρ1 S3 A' σ2 H3 := cb3.step p3
      cases b with
      | false =>
        rw [if_neg Bool.false_ne_true] at hc' ⊢
        exact ⟨S3, accV, dn, rest, hlt, hys, hc', f3⟩
      | true =>
        rw [if_pos rfl] at hc' ⊢
        refine hwi1 _ _ _ ⟨ρ1, S3, A', cb4, ?_⟩
        cases hsr : src1 ρ1 S3 with
        | exc _ _ _ => rw [hsr] at hc'; cases hc'
        | bad => rw [hsr] at hc'; cases hc'
        | ok es4 S4 =>
        rw [hsr] at hc'
        dsimp only at hc'
        intro J1 H4 p4 it1
        have f4 := f3.step rfl pD p4
        have cb5 := cb4.step p4
        cases hin : compL t1 test1 elt (wipeR ρ1 vs1) es4 S4 with
        | exc _ _ _ => rw [hin] at hc'; cases hc'
        | bad => rw [hin] at hc'; cases hc'
        | ok xs S5 =>
        rw [hin] at hc'
        dsimp only at hc'
        cases hr : compL2 t test src1 vs1 t1 test1 elt (wipeR ρ vs) (List.drop (i + 1) ds) S5 with
        | exc _ _ _ => rw [hr] at hc'; cases hc'
        | bad => rw [hr] at hc'; cases hc'
        | ok ys' S6 =>
        rw [hr] at hc'
        dsimp only at hc'
        cases hc'
        -- the inner loop
        have back : ∀ {S7 : Store} {H7 : Hp} {a7 : List V} {d7 : List D}, Fil sb A A' S1 H1 Dd (wipeR ρ1 vs1) (wipe σ2 vs1) S7 H7 a7 d7 → Lives S4 S7 → Ext (Own A' S4) H4 H7 → Fil sb A A' S1 H1 Dd (wipeR ρ vs) (wipe σ vs) S7 H7 a7 d7 := fun {S7 H7 a7 d7} f7 lv e7 => by
          refine f7.slots (f4.cn.move (s' := sb) rfl rfl rfl e7 (fun a z => .inl (by rw [← lv.own A']; exact z)) rfl lv (f7.ln.trans f4.ln.symm) f7.cn.cells)
        refine ⟨fun j k H' => ∃ S' accV dn' rest', k = es4.length - j ∧ j ≤ es4.length ∧ dn' ++ rest' = dn ++ xs ∧ compL t1 test1 elt (wipeR ρ1 vs1) (es4.drop j) S' = .ok rest' S5 ∧ Fil sb A A' S1 H1 Dd (wipeR ρ1 vs1) (wipe σ2 vs1) S' H' accV dn' ∧ Lives S4 S' ∧ Ext (Own A' S4) H4 H',
          ⟨es4.length, S4, accV, dn, xs, rfl, Nat.zero_le _, rfl, hin, f4.slots (cb5.wiped vs1), .refl _, .refl _ _⟩, ?_⟩
        rintro j k H7 ⟨S7, a7, d7, r7, rfl, hj, hd7, hc7, f7, lv7, e7⟩
        obtain ⟨go1, stop1⟩ := it1 A' S7 H7 e7 (fun a z => .inl (by rw [← lv7.own A']; exact z)) f7.cn.cells
        by_cases hlt1 : j < es4.length
        · refine .inr ?_
          have hd1 : es4[j]? = some es4[j] := List.getElem?_eq_getElem hlt1
          obtain ⟨k1, k2⟩ := go1 j es4[j] hd1
          rw [List.drop_eq_getElem_cons hlt1] at hc7
          simp only [compL] at hc7
          refine ⟨k1, fun H' => ∃ S' accV dn' rest', j + 1 ≤ es4.length ∧ dn' ++ rest' = dn ++ xs ∧ compL t1 test1 elt (wipeR ρ1 vs1) (es4.drop (j + 1)) S' = .ok rest' S5 ∧ Fil sb A A' S1 H1 Dd (wipeR ρ1 vs1) (wipe σ2 vs1) S' H' accV dn' ∧ Lives S4 S' ∧ Ext (Own A' S4) H4 H', ?_, fun x1 H8 hy1 => ?_⟩
          · rintro H9 ⟨S9, a9, d9, r9, h1, h2, h3, h4, h5, h6⟩
            exact ⟨es4.length - (j + 1), by omega, S9, a9, d9, r9, rfl, h1, h2, h3, h4, h5, h6⟩
          · obtain ⟨sm1, rx1⟩ := k2 x1 H8 hy1
            have p8 : Pst s.X.K A' S7 H7 S7 H8 := .of_same f7.cn.cells sm1
            have f8 := f7.step rfl pD p8
            have e8 : Ext (Own A' S4) H4 H8 := fun a o h n => sm1 _ _ (e7 a o h n)
            have tr : ∀ {S9 : Store} {H9 H10 : Hp}, Lives S4 S9 → Ext (Own A' S4) H4 H9 → Ext (OwC A' S9) H9 H10 → Ext (Own A' S4) H4 H10 := fun {S9 H9 H10} l a b x o h n => b x o (a x o h n) fun z => n (by rw [← l.own A']; exact .inl z)
            cases ht1' : t1 es4[j] (wipeR ρ1 vs1) with
            | none => rw [ht1'] at hc7; cases hc7
            | some ρ3 =>
            rw [ht1'] at hc7
            dsimp only at hc7
            refine hg1 _ _ _ _ ⟨wipeR ρ1 vs1, S7, A', es4[j], ρ3, f8.cn, rx1, ht1', fun σ3 t3 cb8 => ⟨wipe_touch t3, ?_⟩⟩
            cases htt1 : test1 ρ3 S7 with
            | exc _ _ _ => rw [htt1] at hc7; cases hc7
            | bad => rw [htt1] at hc7; cases hc7
            | ok b1 S9 =>
            rw [htt1] at hc7
            dsimp only at hc7
            refine ht1 _ _ _ ⟨ρ3, S7, A', cb8, ?_⟩
            rw [htt1]
            intro H9 p9
            have f9 := f8.step rfl pD p9
            have e9 := tr lv7 e8 p9.ext
            have lv9 := lv7.trans p9.lives
            have cb9 : Cn sb ρ3 S9 A' σ3 H9 := cb8.step p9
            cases b1 with
            | false =>
              rw [if_neg Bool.false_ne_true] at hc7 ⊢
              exact ⟨S9, a7, d7, r7, hlt1, hd7, hc7, f9, lv9, e9⟩
            | true =>
              rw [if_pos rfl] at hc7 ⊢
              refine he _ _ _ ⟨ρ3, S9, A', cb9, ?_⟩
              cases hel : elt ρ3 S9 with
              | exc _ _ _ => rw [hel] at hc7; cases hc7
              | bad => rw [hel] at hc7; cases hc7
              | ok x S10 =>
              rw [hel] at hc7
              dsimp only at hc7
              split at hc7
              case isFalse => cases hc7
              rename_i hpl
              intro y H10 p10 ry fy
              have f10 := f9.step rfl pD p10
              have e10 := tr lv9 e9 p10.ext
              have lv10 := lv9.trans p10.lives
              cases hr1 : compL t1 test1 elt (wipeR ρ1 vs1) (List.drop (j + 1) es4) S10 with
              | exc _ _ _ => rw [hr1] at hc7; cases hc7
              | bad => rw [hr1] at hc7; cases hc7
              | ok xs' S11 =>
              rw [hr1] at hc7
              dsimp only at hc7
              cases hc7
              have hl : a7.length = d7.length := f7.racc.length
              have hl2 : d7.length < ys.length := by
                rw [← hys, ← List.append_assoc, ← hd7]; simp
              refine ⟨a7, f10.acc, by rw [hl, line_eq]; exact Nat.lt_of_lt_of_le hl2 hlen, S10, a7 ++ [y], d7 ++ [cool x], xs', hlt1, by rw [← hd7]; simp, hr1, f10.push hD pD (ry.plain hpl).cool, lv10, fun a o h n => ?_⟩
              rw [upd_ne (fun z => n (by rw [z]; exact .inr pD))]
              exact e10 a o h n
        · have e : j = es4.length := by omega
          subst e
          rw [List.drop_length] at hc7
          simp only [compL] at hc7
          cases hc7
          rw [List.append_nil] at hd7
          subst hd7
          exact .inl ⟨stop1, _, a7, dn ++ xs, ys', hlt, by rw [← hys, List.append_assoc], hr, back f7 lv7 e7⟩
  · have e : i = ds.length := by omega
    subst e
    rw [List.drop_length] at hc'
    simp only [compL2] at hc'
    cases hc'
    rw [List.append_nil] at hys
    subst hys
    have cb := f.cn
    refine .inl ⟨stop, q (.ref Dd) H' ?_ (.inr (.inl (.lst ?_ f.acc ?_))) fun _ => ⟨Dd, rfl, p1.free c.cells _ hD, .lst f.acc ?_, fun n e h => ?_⟩⟩
    · refine p1.trans ⟨f.ext, f.lv, f.ln, ⟨fun n d h => (cb.cells.at_ n d h).own cb.cells.owns fun x z => (oO _ x).mpr (.inl z), cb.cells.inj, fun a z => cb.cells.phs a (.inl z), fun a z => cb.cells.apart a (.inl z)⟩⟩
    · rintro (z | z)
      · exact cb.cells.apart Dd (.inr rfl) z
      · exact dOwn (.inr z)
    · exact f.racc.ext cb.cells.owns (.refl _ _) fun x z => .inl ((oO _ x).mpr (.inl z))
    · exact f.racc.ext cb.cells.owns (.refl _ _) fun x z => .inl ((oO _ x).mpr z)
    · exact (cb.cells.at_ n e h).own cb.cells.owns fun x z => (oO _ x).mpr z
variable {elt tg iter tg1 iter1 : Expr} {ifs ifs1 : List Expr} {scope : Scope} {own : List (Str × Nat)} {pos : Pos} {src src1 : Src} {vs vs1 : List Nat} {t t1 : Tg} {test test1 : MT} {m : ME}
theorem se_comp2 (hc : s.X.calm = true) (hN : s.X.N.Nodup) (hi : SI s tg iter src) (ok : BlkOk s.X.N s.X.env.scope scope own) (hv : own.map (·.2) = vs) (hv1 : ∀ i ∈ vs1, i ∈ vs)
    (hg : ∀ (sh : Shared) (H : Hp) (C : Addr) (cl : List (Str × Addr)) (fp : List Addr), SG (s.blk sh H scope (compEnvC scope cl C s.X.env) fp) tg vs t)
    (ht : ∀ (sh : Shared) (H : Hp) (C : Addr) (cl : List (Str × Addr)) (fp : List Addr), STs (s.blk sh H scope (compEnvC scope cl C s.X.env) fp) ifs test)
    (hi1 : ∀ (sh : Shared) (H : Hp) (C : Addr) (cl : List (Str × Addr)) (fp : List Addr), SI (s.blk sh H scope (compEnvC scope cl C s.X.env) fp) tg1 iter1 src1)
    (hg1 : ∀ (sh : Shared) (H : Hp) (C : Addr) (cl : List (Str × Addr)) (fp : List Addr), SG (s.blk sh H scope (compEnvC scope cl C s.X.env) fp) tg1 vs1 t1)
    (ht1 : ∀ (sh : Shared) (H : Hp) (C : Addr) (cl : List (Str × Addr)) (fp : List Addr), STs (s.blk sh H scope (compEnvC scope cl C s.X.env) fp) ifs1 test1)
    (he : ∀ (sh : Shared) (H : Hp) (C : Addr) (cl : List (Str × Addr)) (fp : List Addr), SE (s.blk sh H scope (compEnvC scope cl C s.X.env) fp) elt m)
    (hs : ∀ x, foldedSetIterable iter s.X.env x = pure x := by intro _; rfl) (hs1 : ∀ env x, foldedSetIterable iter1 env x = pure x := by intro _ _; rfl) :
    SE s (.ListComp elt [⟨tg, iter, ifs, 0⟩, ⟨tg1, iter1, ifs1, 0⟩] scope pos) (mComp2 src vs t test src1 vs1 t1 test1 m) := by
  subst hv
  refine PE.weak (pe_lc2 (wi := tDi s src) (wi1 := tDi s.mute src1) (g := tDg s.mute (own.map (·.2)) t) (g1 := tDg s.mute vs1 t1) (tt := tDt s.mute test) (tt1 := tDt s.mute test1) (te := tD s.mute m) hc hN hi ok hv1
    (fun sh H C cl fp => ?_) (fun sh H C cl fp => ?_) (fun sh H C cl fp => ?_) (fun sh H C cl fp => ?_) (fun sh H C cl fp => ?_) (fun sh H C cl fp => ?_) hs hs1) fun σ H Q q => comp2_red hv1 (fun _ _ _ q => q) (fun _ _ _ q => q) (fun _ _ _ _ q => q) (fun _ _ _ _ q => q) (fun _ _ _ q => q) (fun _ _ _ q => q) (fun _ _ _ q => q) q
  · exact PG.weak (hg sh H C cl fp) fun v σ H2 Q q => tDg_conv (s := s.mute) (s' := s.blk sh H scope (compEnvC scope cl C s.X.env) fp) rfl rfl rfl q
  · exact PTs.weak (ht sh H C cl fp) fun σ H2 Q q => tDt_conv (s := s.mute) (s' := s.blk sh H scope (compEnvC scope cl C s.X.env) fp) rfl rfl rfl (fun _ _ _ _ z => z) q
  · exact PI.weak (hi1 sh H C cl fp) fun σ H2 R q => by
      obtain ⟨ρ, S, A, c, q⟩ := q
      refine ⟨ρ, S, A, Cn.conv (s := s.mute) (s' := s.blk sh H scope (compEnvC scope cl C s.X.env) fp) rfl rfl rfl c, ?_⟩
      cases e : src1 ρ S with
      | ok ds S1 => rw [e] at q; exact q
      | exc x fs S1 => rw [e] at q; exact q
      | bad => rw [e] at q; exact q
  · exact PG.weak (hg1 sh H C cl fp) fun v σ H2 Q q => tDg_conv (s := s.mute) (s' := s.blk sh H scope (compEnvC scope cl C s.X.env) fp) rfl rfl rfl q
  · exact PTs.weak (ht1 sh H C cl fp) fun σ H2 Q q => tDt_conv (s := s.mute) (s' := s.blk sh H scope (compEnvC scope cl C s.X.env) fp) rfl rfl rfl (fun _ _ _ _ z => z) q
  · exact PE.weak (he sh H C cl fp) fun σ H2 Q q => tD_conv (s := s.mute) (s' := s.blk sh H scope (compEnvC scope cl C s.X.env) fp) rfl rfl rfl (fun _ _ _ _ z => z) q
end
end Dv

set_option maxHeartbeats 4000000
/-! for the printed derivations: defs that make lambdas; tuple * int -/
namespace Dv
open PySem PySem.Spec PyProof.Rows L2
set_option autoImplicit false
theorem CdAt.eq {K : PySem.W.Frag} {x q : Str} {cdv : Value} (h : CdAt K (He.ga K x) q cdv) (e : He.ga K x = He.fAd K (x, none)) : cdv = .ref (He.codeOf K (x, none)) := by
  obtain ⟨oc, od, fd, osl, lk, hc, hq⟩ := h
  obtain ⟨c, hc2⟩ := He.codeIn_ref hq
  rw [e] at lk
  rw [He.codeOf_eq lk (hc.trans hc2)]
  exact hc2
section
variable {G : Gd} {k : Nat} {x : Str} {st : Stmt} {fd : FuncData} {N ps : List Str} {b : Nat → MS}
theorem fnD_ofC (F : FunD G.K x x (defArgs st) (defBody st) (defScope st) [] [] (He.ga G.K x) fd) (S : FnScope N ps (defScope st)) (hb : Binds G.K fd ps [])
    (hbody : ∀ (A : Around) (outer : List Env) (s : Shared) (H : Hp) (E : XK) (base : Nat), Gs G k (sitOf G N x (defScope st) (He.ga G.K x) (.ref (He.codeOf G.K (x, none))) A outer s H E base) →
      SSs (sitOf G N x (defScope st) (He.ga G.K x) (.ref (He.codeOf G.K (x, none))) A outer s H E base) (defBody st) (b base)) : FnD G (k + 1) (He.ga G.K x) ps.length (mDef N.length b) :=
  fnD_ofW F S hb fun cdv A outer s H E base hc g => by
    have e := hc.eq rfl
    subst e
    exact hbody A outer s H E base g
end
/-! ### tuple * int -/
theorem rpAll_rep {K : PySem.W.Frag} {H : Hp} {O : Ow} {vs : List V} {ds : List D} (r : RpAll K H O vs ds) (n : Nat) : RpAll K H O (List.replicate n vs).flatten (repN n ds) := by
  unfold repN
  induction n with
  | zero => exact .nil
  | succ n ih => simp only [List.replicate_succ, List.flatten_cons]; exact r.append ih
def dRepT (S : Store) (d e : D) : Option D := match vw S d, vw S e with
  | .tup xs, .int k => if 2 ≤ k ∧ k ≤ 1000 ∧ xs.length ≤ 1000 ∧ 0 < xs.length then some (.tup (repN k.toNat xs)) else none
  | _, _ => none
def dMul3 (S : Store) (d e : D) : Option D := (dMul S d e).orElse fun _ => dRepT S d e
section
variable {s : Sit}
theorem sem_repT : OpSem s dRepT (rRepT s.X.K) := by
  intro A S H v w d e x Q c rd re hf q
  unfold dRepT at hf
  split at hf
  · rename_i xs k h1 h2
    split at hf
    · rename_i hl
      cases hf
      obtain ⟨a, vs, rfl, ha, ra⟩ := (rd.as c h1).tup
      have hlen := ra.length
      refine ⟨a, k, vs, rfl, (re.as c h2).int, ha, ?_, hl.1, hl.2.1, by rw [hlen]; exact hl.2.2.1, fun p hp => ?_⟩
      · intro z
        subst z
        have : xs.length = 0 := by rw [← hlen]; rfl
        omega
      · exact new_tup c (rpAll_rep ra _) q p hp
    · cases hf
  · cases hf
theorem op_mul3 : OpR s.X (binaryOp .Mult) (fun x y H Q => (rI CMulW (fun i j => .int (i * j)) x y H Q ∨ rRep x y H Q) ∨ rRepT s.X.K x y H Q) := op_mul2.or op_repT
theorem sem_mul3 : OpSem s dMul3 (fun x y H Q => (rI CMulW (fun i j => .int (i * j)) x y H Q ∨ rRep x y H Q) ∨ rRepT s.X.K x y H Q) := sem_mul.or sem_repT
end
end Dv

set_option maxHeartbeats 4000000
/-! what the head reads: errors that keep something, classes with slots, tables -/
namespace Dv
open PySem PySem.Spec PyProof.Rows L2
set_option autoImplicit false
/-! ### errors with an own __init__ -/
def bN : Nat → String
  | 10 => "IndexError" | 11 => "LookupError" | 12 => "LookupError" | 13 => "OverflowError" | _ => "ArithmeticError"
def bNew : Nat → String
  | 10 => "IndexError.__new__" | 11 => "LookupError.__new__" | 12 => "LookupError.__new__" | 13 => "OverflowError.__new__" | _ => "ArithmeticError.__new__"
def bIni : Nat → String
  | 10 => "IndexError.__init__" | 11 => "LookupError.__init__" | 12 => "LookupError.__init__" | 13 => "OverflowError.__init__" | _ => "ArithmeticError.__init__"
def bMro : Nat → List Value
  | 10 => [.type "IndexError", .type "LookupError", .type "Exception", .type "BaseException", .type "object"]
  | 11 => [.type "LookupError", .type "Exception", .type "BaseException", .type "object"]
  | 12 => [.type "LookupError", .type "Exception", .type "BaseException", .type "object"]
  | 13 => [.type "OverflowError", .type "ArithmeticError", .type "Exception", .type "BaseException", .type "object"]
  | _ => [.type "ArithmeticError", .type "Exception", .type "BaseException", .type "object"]
theorem bTxt : ∀ c : Nat, 10 ≤ c → Sup.BTxt (bN c) (bNew c) (bIni c) (bMro c)
  | 10, _ => Sup.b_IndexError | 11, _ => Sup.b_LookupError | 12, _ => Sup.b_LookupError | 13, _ => Sup.b_OverflowError
  | _ + 14, _ => Sup.b_ArithmeticError
  | 0, h | 1, h | 2, h | 3, h | 4, h | 5, h | 6, h | 7, h | 8, h | 9, h => absurd h (by decide)
def eC (K : PySem.W.Frag) (c : Nat) : Addr := He.ga K (ecn c)
def eI (K : PySem.W.Frag) (c : Nat) : Addr := He.ma K (eC K c) "__init__"
/-- the rest of the __init__ -/
def eFn (pf : Str) (K : PySem.W.Frag) (c : Nat) (qual : Str) : Bool := match K.lookup (eI K c) with
  | some ⟨_, _, .func fd, _⟩ => PySem.W.codeIn K fd.code qual && ((match fd.defaults, fd.kwdefaults with
    | .none, .none => true
    | _, _ => false) && ((match fd.closure with
    | [(_, cc)] => (match K.lookup cc with
      | some ⟨_, _, .cell (some (.ref D)), _⟩ => decide (D = eC K c)
      | _ => false)
    | _ => false) && (match fd.code with
    | .ref a => (match K.lookup a with
      | some ⟨_, _, .fields vs, _⟩ => (match (vs[2]? : Option Value) with
        | some (Value.str file _) => pf == file
        | _ => false)
      | _ => false)
    | _ => false)))
  | _ => false
def eB (pf : Str) (K : PySem.W.Frag) (c : Nat) (qual : Str) : Bool :=
  PySem.W.excInitIn K (eC K c) (bMro c) (bNew c) && (PySem.W.excOver K (eC K c) (bMro c) && (decide (PySem.W.findIn K (.ref (eC K c)) "__setattr__" = some (some (.builtin "object.__setattr__"))) && (decide (PySem.W.takerIn K (eC K c) (cfn c) = some none) &&
  (decide (PySem.W.findIn K (.ref (eC K c)) "__init__" = some (some (.ref (eI K c)))) && (PySem.W.isFn K (.ref (eI K c)) && (PySem.W.keepIn K (.ref (eC K c)) && (decide (PySem.W.subIn K (.ref (eC K c)) (.type "BaseException") = some true) &&
  (decide (PySem.W.subIn K (.ref (eC K c)) (.type (bN c)) = some true) && (decide (PySem.W.mroIn K (eC K c) (.ref (eC K c)) = some true) && (decide (PySem.W.typeIn K (.ref (eC K c)) = some (.type "type")) && (PySem.W.hasDictIn K (eC K c) &&
  (decide (PySem.W.ks_superIn K (eC K c) (eC K c) "__init__" = some (some (.builtin (bIni c)))) && (decide (PySem.W.nsIn K cStatics "thirdparty.any" = some none) && (decide (PySem.W.nsIn K mainGlobals "super" = some none) &&
  (decide (PySem.W.nsIn K mainGlobals (ecn c) = some (some (.ref (eC K c)))) && (eFn pf K c qual && (xfB K (eC K c) && decide (PySem.W.findIn K (.ref (eC K c)) (cfn c) = some none))))))))))))))))))
abbrev EW : Type := Option (Str × Str × Arguments × FuncBody × Scope × Addr × List Str × Addr)
def eW (K : PySem.W.Frag) (c : Nat) : EW := match K.lookup (eI K c) with
  | some ⟨_, _, .func fd, _⟩ => some (fd.name, fd.qualname, fd.params, fd.body, fd.scope, fd.globals, fd.closure.map (·.1), fd.builtins)
  | _ => none
structure ErD where
  c : Nat
  qual : Str
  st : Stmt
def ErD.val (e : ErD) : EW := some ("__init__", e.qual, defArgs e.st, .stmts (defBody e.st), defScope e.st, mainGlobals, ["__class__"], builtinsNs)
/-- what the text shows of such an __init__ -/
structure ErT (P : Program) (pf : Str) (e : ErD) : Prop where
  ge : 10 ≤ e.c
  args : ∃ p1 p2, defArgs e.st = Sup.eArgs (cfn e.c) p1 p2
  body : ∃ a0 a1 a2 a3 a4 a5 a6 a7 a8 a9, defBody e.st = Sup.eBody (cfn e.c) a0 a1 a2 a3 a4 a5 a6 a7 a8 a9 ∧ Sup.CallEq e.qual (cfn e.c) a0 a1 a2 a3 a4
  scope : defScope e.st = Sup.eScope (cfn e.c)
  file : P.main.file = pf
  top : (P.main.scope.names.lookup ("super" : Str)).isSome = false
theorem eB_ok {P : Program} {pf : Str} {K : PySem.W.Frag} {e : ErD} (h : eB pf K e.c e.qual = true) (hv : eW K e.c = e.val) (T : ErT P pf e) :
    Sup.ETxt P K (eC K e.c) (eI K e.c) (bN e.c) (bNew e.c) (bIni e.c) (bMro e.c) (cfn e.c) ∧ PySem.W.nsIn K mainGlobals (ecn e.c) = some (some (.ref (eC K e.c))) ∧ XfC K (eC K e.c) ∧ PySem.W.findIn K (.ref (eC K e.c)) (cfn e.c) = some none := by
  obtain ⟨c, qual, st⟩ := e
  unfold eB at h
  simp only [Bool.and_eq_true, decide_eq_true_eq] at h
  obtain ⟨h1, h2, h3, h4, h5, h6, h7, h8, h9, h10, h11, h12, h13, h14, h15, h16, h17, h18, h19⟩ := h
  refine ⟨⟨h1, h2, h3, h4, h5, h6, h7, h8, h9, h10, h11, h12, h13, h14, h15, T.top, ?_⟩, h16, xfB_ok h18, h19⟩
  obtain ⟨p1, p2, ea⟩ := T.args
  obtain ⟨a0, a1, a2, a3, a4, a5, a6, a7, a8, a9, eb, ce⟩ := T.body
  have es := T.scope
  unfold eFn at h17
  unfold eW at hv
  cases q : K.lookup (eI K c) with
  | none => rw [q] at h17; cases h17
  | some o =>
    obtain ⟨oc, od, dt, osl⟩ := o
    rw [q] at h17 hv
    cases dt with
    | func fd =>
      obtain ⟨n1, n2, n3, n4, n5, n6, n7, n8, n9, n10, n11, n12, n13, n14, n15⟩ := fd
      have e2 : (some (n1, n2, n3, n4, n5, n6, n7.map (·.1), n15) : EW) = (some (("__init__" : Str), qual, defArgs st, FuncBody.stmts (defBody st), defScope st, mainGlobals, [("__class__" : Str)], builtinsNs) : EW) := hv
      simp only [Option.some.injEq, Prod.mk.injEq] at e2
      obtain ⟨k1, k2, k3, k4, k5, k6, k7, k8⟩ := e2
      dsimp only at h17
      obtain ⟨g1, g2, g3, g4⟩ : _ ∧ _ ∧ _ ∧ _ := by simpa only [Bool.and_eq_true] using h17
      cases n8 with
      | none =>
        cases n9 with
        | none =>
          cases n7 with
          | nil => cases k7
          | cons y r =>
            obtain ⟨yn, cc⟩ := y
            cases r with
            | cons _ _ => cases k7
            | nil =>
              have kn : yn = "__class__" := by
                have := k7
                simpa using this
              dsimp only at g3
              cases qc : K.lookup cc with
              | none => rw [qc] at g3; cases g3
              | some oc2 =>
                obtain ⟨cl, cld, dc, csl⟩ := oc2
                rw [qc] at g3
                cases dc with
                | cell ov =>
                  cases ov with
                  | none => cases g3
                  | some v =>
                    cases v with
                    | ref D =>
                      have hD : D = eC K c := of_decide_eq_true g3
                      cases n13 with
                      | ref a =>
                        dsimp only at g4
                        cases qa : K.lookup a with
                        | none => rw [qa] at g4; cases g4
                        | some oa =>
                          obtain ⟨ccl, cdd, da, ccs⟩ := oa
                          rw [qa] at g4
                          cases da with
                          | fields vs =>
                            dsimp only at g4
                            cases qv : vs[2]? with
                            | none => rw [qv] at g4; cases g4
                            | some fv =>
                              rw [qv] at g4
                              cases fv with
                              | str file tf =>
                                have g4 : (pf == file) = true := g4
                                dsimp only at ea eb es ce
                                subst k1 k2 k3 k4 k5 k6 k8 kn hD
                                exact ⟨_, oc, od, _, _, _, a, _, cc, osl, p1, p2, a0, a1, a2, a3, a4, a5, a6, a7, a8, a9, ccl, cl, cdd, cld, ccs, csl, vs, file, tf, congrArg some (by rw [ea, eb, es]), g1, qa, qv, by rw [T.file]; exact g4, qc, ce⟩
                              | _ => cases g4
                          | _ => cases g4
                      | _ => cases g4
                    | _ => cases g3
                | _ => cases g3
        | _ => cases g2
      | _ => cases n9 <;> cases g2
    | _ => cases h17
/-! ### classes with slots -/
def oB (K : PySem.W.Frag) (c : Nat) : Bool := let C := He.ga K (clsN c)
  PySem.W.plainGet K C Str.empty && (PySem.W.isClsIn K C && (PySem.W.plainOver K C && (decide (PySem.W.findIn K (.ref C) "__setattr__" = some (some (.builtin "object.__setattr__"))) &&
  (decide (PySem.W.findIn K (.ref C) "__class__" = some (some (.builtin "object.__class__"))) && (decide (PySem.W.specialIn K (.builtin "object.__class__") "__get__" = some (some (.builtin "getset_descriptor.__get__"))) &&
  (decide (PySem.W.takesIn K (.builtin "object.__class__") = some true) && (decide (PySem.W.mroIn K C (.type "object") = some true) && (decide (PySem.W.kitOne K (.ref C) (.ref C) = some true) &&
  (tyNames.all (fun t => decide (PySem.W.kitOne K (.type t) (.ref C) = some false)) && decide (PySem.W.nsIn K mainGlobals (clsN c) = some (some (.ref C))))))))))))
theorem oB_ok {G : Gd} {c : Nat} (h : oB G.K c = true) (hm : PySem.W.nsIn G.K mainGlobals (clsN c) = some (some (.ref (He.ga G.K (clsN c)))) → G.mg (clsN c) = some (.ref (He.ga G.K (clsN c)))) : OCls G c := by
  unfold oB at h
  simp only [Bool.and_eq_true, decide_eq_true_eq, List.all_eq_true] at h
  obtain ⟨h1, h2, h3, h4, h5, h6, h7, h8, h9, h10, h11⟩ := h
  exact ⟨hm h11, ⟨h1, h2, h3, h4⟩, ⟨h5, h6, h7, h8⟩, h9, h10⟩
def slB (K : PySem.W.Frag) (c : Nat) (f : Str) (i : Nat) : Bool := let C := He.ga K (clsN c); let p := He.ma K C f
  decide (PySem.W.findIn K (.ref C) f = some (some (.ref p))) && (decide (PySem.W.specialIn K (.ref p) "__get__" = some (some (.builtin "member_descriptor.__get__"))) && (decide (PySem.W.takesIn K (.ref p) = some true) &&
  (decide (PySem.W.typeIn K (.ref p) = some (.type "member_descriptor")) && (decide (PySem.W.slotIn K p C = some i) && decide (i < 1000)))))
theorem slB_ok {K : PySem.W.Frag} {c : Nat} {f : Str} {i : Nat} (h : slB K c f i = true) : ∃ p, SlX.Slot1 K (He.ga K (clsN c)) f p i := by
  unfold slB at h
  simp only [Bool.and_eq_true, decide_eq_true_eq] at h
  obtain ⟨h1, h2, h3, h4, h5, h6⟩ := h
  exact ⟨_, h1, h2, h3, h4, h5, h6⟩
theorem mk_ok {K : PySem.W.Frag} {x : Str} (h : (He.Fa.mkr x).ok K = true) : Mk K (He.ga K x) (He.ma K (He.ga K x) "__init__") := by
  have h : (PySem.W.makesIn K (He.ga K x) && (He.eqO (PySem.W.findIn K (.ref (He.ga K x)) "__init__") (some (some (.ref (He.ma K (He.ga K x) "__init__")))) && (PySem.W.isFn K (.ref (He.ma K (He.ga K x) "__init__")) && PySem.W.keepIn K (.ref (He.ga K x))))) = true := h
  simp only [Bool.and_eq_true] at h
  exact ⟨h.1, He.eqO_ok h.2.1, h.2.2.1, h.2.2.2⟩
theorem xcls_ok {G : Gd} {c : Nat} {h : Heap} (hc : G.cad c = He.ga G.K (ecn c)) (X : G.K.In h) (N : h.Ns mainGlobals G.mg) (h1 : (He.Fa.exc (ecn c)).ok G.K = true) (h2 : (He.Fa.glo (ecn c)).ok G.K = true) : XCls G c := by
  have h1 : (PySem.W.excIn G.K (He.ga G.K (ecn c)) He.veBase "ValueError.__new__" && (PySem.W.keepIn G.K (.ref (He.ga G.K (ecn c))) && (decide (PySem.W.subIn G.K (.ref (He.ga G.K (ecn c))) (.type "BaseException") = some true) && decide (PySem.W.typeIn G.K (.ref (He.ga G.K (ecn c))) = some (.type "type"))))) = true := h1
  simp only [Bool.and_eq_true, decide_eq_true_eq] at h1
  refine ⟨?_, ?_, ?_, ?_, ?_⟩ <;> rw [hc]
  · exact He.glo_ok X N h2
  · exact h1.1
  · exact h1.2.1
  · exact h1.2.2.1
  · exact h1.2.2.2
theorem xf_ok {G : Gd} {h : Heap} {pf : Str} {e : ErD} (hc : G.cad e.c = He.ga G.K (ecn e.c)) (X : G.K.In h) (N : h.Ns mainGlobals G.mg) (h1 : eB pf G.K e.c e.qual = true) (h2 : eW G.K e.c = e.val) (T : ErT G.P pf e) (hn : Sup.FName (cfn e.c)) :
    XClsF G e.c ∧ XfC G.K (G.cad e.c) ∧ PySem.W.findIn G.K (.ref (G.cad e.c)) (cfn e.c) = some none := by
  obtain ⟨t, g, xf, no⟩ := eB_ok h1 h2 T
  rw [hc]
  refine ⟨⟨?_, ⟨eI G.K e.c, bN e.c, bNew e.c, bIni e.c, bMro e.c, ?_, bTxt e.c T.ge⟩, hn⟩, xf, no⟩
  · rw [hc]; exact PySem.W.mg_of X N g
  · rw [hc]; exact t
theorem exm_ok {G : Gd} {cs ks : List Nat} (hc : ∀ c, G.cad c = He.ga G.K (ecn c)) (h : (cs.all fun c => ks.all fun k => decide (PySem.W.exmOne G.K (.ref (He.ga G.K (ecn c))) (.ref (He.ga G.K (ecn k))) = some (subC c k))) = true) :
    ∀ c ∈ cs, ∀ k ∈ ks, PySem.W.exmOne G.K (.ref (G.cad c)) (.ref (G.cad k)) = some (subC c k) := fun c hc' k hk => by
  rw [hc, hc]
  simp only [List.all_eq_true, decide_eq_true_eq] at h
  exact h c hc' k hk
/-! ### the Hook -/
structure SaysE (fa : List He.Fa) (fn : List He.DefD) (es : List ErD) (tf : List Str) (ex : PySem.W.Frag → Bool) (h : Heap) (K : PySem.W.Frag) : Prop where
  d : He.SaysD fa fn K
  e : es.map (fun e => eW K e.c) = es.map ErD.val
  more : ex K = true
  hd : ∀ x ∈ tf, PySem.W.codeHdIn K (He.codeOf K (x, none)) (tA K x) = true
  out : ∀ x ∈ tf, K.lookup (tA K x) = none
  empty : ∀ x ∈ tf, h.get? (tA K x) = some { cls := .none, data := .fields #[] }
def tabsE (g : Addr → Option Obj) (tf : List Str) (K : PySem.W.Frag) : Bool := tf.all fun x => PySem.W.codeHdIn K (He.codeOf K (x, none)) (tA K x) && (match g (tA K x) with
  | some o => He.emptyTab o
  | none => false)
abbrev AlE : Type := He.AlD × List EW × Bool
def fragE (n : Nat) (g : Addr → Option Obj) : PySem.W.Frag := He.frT g (cStatics :: He.asD g n)
def obsE0 (fa : List He.Fa) (fn : List He.DefD) (es : List ErD) (tf : List Str) (ex : PySem.W.Frag → Bool) (g : Addr → Option Obj) (K : PySem.W.Frag) : AlE := (He.obsD fa fn K, es.map (fun e => eW K e.c), ex K && tabsE g tf K)
def obsE (n : Nat) (fa : List He.Fa) (fn : List He.DefD) (es : List ErD) (tf : List Str) (ex : PySem.W.Frag → Bool) (g : Addr → Option Obj) : AlE := obsE0 fa fn es tf ex g (fragE n g)
def valE (fn : List He.DefD) (es : List ErD) : AlE := (He.valD fn, es.map ErD.val, true)
theorem saysE_of {n : Nat} {fa : List He.Fa} {fn : List He.DefD} {es : List ErD} {tf : List Str} {ex : PySem.W.Frag → Bool} {h : Heap} (e : obsE n fa fn es tf ex h.get? = valE fn es) : SaysE fa fn es tf ex h (fragE n h.get?) := by
  have e1 : He.obsD fa fn (fragE n h.get?) = He.valD fn := congrArg (fun z : AlE => z.1) e
  have e3 : es.map (fun e => eW (fragE n h.get?) e.c) = es.map ErD.val := congrArg (fun z : AlE => z.2.1) e
  have e2 : (ex (fragE n h.get?) && tabsE h.get? tf (fragE n h.get?)) = true := congrArg (fun z : AlE => z.2.2) e
  obtain ⟨h1, h2⟩ := Bool.and_eq_true_iff.mp e2
  have key : ∀ x ∈ tf, PySem.W.codeHdIn (fragE n h.get?) (He.codeOf (fragE n h.get?) (x, none)) (tA (fragE n h.get?) x) = true ∧ ∃ o, h.get? (tA (fragE n h.get?) x) = some o ∧ He.emptyTab o = true := fun x hx => by
    obtain ⟨h3, h4⟩ := Bool.and_eq_true_iff.mp (List.all_eq_true.mp h2 x hx)
    refine ⟨h3, ?_⟩
    cases q : h.get? (tA (fragE n h.get?) x) with
    | none => rw [q] at h4; cases h4
    | some o => rw [q] at h4; exact ⟨o, rfl, h4⟩
  exact ⟨e1, e3, h1, fun x hx => (key x hx).1, fun x hx => by
    obtain ⟨_, o, q, z⟩ := key x hx
    exact He.frT_none q z, fun x hx => by
    obtain ⟨_, o, q, z⟩ := key x hx
    rw [q, He.emptyTab_eq z]⟩
def hookE (n : Nat) (fa : List He.Fa) (fn : List He.DefD) (es : List ErD) (tf : List Str) (ex : PySem.W.Frag → Bool) : PySem.W.Hook where
  α := AlE
  obs := fun s => obsE n fa fn es tf ex s.heap.get?
  val := fun _ => valE fn es
  says := fun _ h => ∃ K : PySem.W.Frag, K.In h ∧ SaysE fa fn es tf ex h K
  of := fun _ _ e => ⟨_, He.frT_in, saysE_of e⟩
  keeps := fun _ _ _ ⟨K, hK, c⟩ k => ⟨K, PySem.W.Frag.In.keeps hK k, ⟨c.d, c.e, c.more, c.hd, c.out, fun p hp => k _ _ (c.empty p hp)⟩⟩
theorem obsE_eq {n : Nat} {fa : List He.Fa} {fn : List He.DefD} {es : List ErD} {tf : List Str} {ex : PySem.W.Frag → Bool} {g : Addr → Option Obj} {s : Shared} (h : ∀ a, g a = s.heap.get? a) : obsE n fa fn es tf ex g = (hookE n fa fn es tf ex).obs s := by
  have e : g = s.heap.get? := funext h
  rw [e] <;> rfl
end Dv

set_option maxHeartbeats 4000000
namespace Dv
open PySem PySem.Spec PyProof.Rows L2
set_option autoImplicit false
/-! ### reading denotations -/
theorem var_ok {i : Nat} {ρ : Rho} {S : Store} {d : D} (h : ρ[i]? = some (some d)) (n : isNew d = false) : mVar i ρ S = .ok d S := by
  unfold mVar; rw [h]; simp [n]
theorem take_app {S T : Store} : (S ++ T).take S.length = S := by simp
theorem vw_int {S : Store} {i : Int} : vw S (.int i) = .int i := rfl
theorem vw_loc {S : Store} {n : Nat} {d : D} (h : S[n]? = some (some d)) : vw S (.loc n) = d := by simp [vw, h]
theorem app_get {S T : Store} {n : Nat} {d : D} (h : S[n]? = some (some d)) : (S ++ T)[n]? = some (some d) := by
  rw [List.getElem?_append_left, h]
  rcases Nat.lt_or_ge n S.length with z | z
  · exact z
  · rw [List.getElem?_eq_none z] at h; cases h
theorem get_lt {S : Store} {n : Nat} {d : D} (h : S[n]? = some (some d)) : n < S.length := by
  rcases Nat.lt_or_ge n S.length with z | z
  · exact z
  · rw [List.getElem?_eq_none z] at h; cases h
theorem app_set {S T : Store} {n : Nat} {x : Option D} (h : n < S.length) : (S ++ T).set n x = S.set n x ++ T := List.set_append_left _ _ h
theorem app_set2 {S T : Store} {i : Nat} {x : Option D} : (S ++ T).set (S.length + i) x = S ++ T.set i x := by
  rw [List.set_append_right _ _ (by omega)]; simp
theorem app_get2 {S T : Store} {i : Nat} : (S ++ T)[S.length + i]? = T[i]? := by
  rw [List.getElem?_append_right (by omega)]; simp
/-- a comprehension whose parts change nothing -/
theorem compL_pure {t : Tg} {test : MT} {elt : ME} {ρ : Rho} {S : Store} (p : D → Bool) (f : D → D) : ∀ (ds : List D), (∀ d ∈ ds, ∃ ρ1, t d ρ = some ρ1 ∧ test ρ1 S = .ok (p d) S ∧ (p d = true → elt ρ1 S = .ok (f d) S ∧ plain (f d) = true)) →
    compL t test elt ρ ds S = .ok ((ds.filter p).map fun d => cool (f d)) S
  | [], _ => rfl
  | d :: ds, h => by
    obtain ⟨ρ1, h1, h2, h3⟩ := h d List.mem_cons_self
    have ih := compL_pure p f ds fun e he => h e (List.mem_cons_of_mem _ he)
    simp only [compL, h1, h2]
    cases hp : p d with
    | false => simp [hp, ih]
    | true =>
      obtain ⟨h4, h5⟩ := h3 hp
      simp [hp, h4, h5, ih]
theorem mComp_pure {src : Src} {vs : List Nat} {t : Tg} {test : MT} {elt : ME} {ρ : Rho} {S S1 : Store} {ds : List D} (p : D → Bool) (f : D → D) (hs : src ρ S = .ok ds S1) (hl : ds.length ≤ LINE)
    (h : ∀ d ∈ ds, ∃ ρ1, t d (wipeR ρ vs) = some ρ1 ∧ test ρ1 S1 = .ok (p d) S1 ∧ (p d = true → elt ρ1 S1 = .ok (f d) S1 ∧ plain (f d) = true)) :
    mComp src vs t test elt ρ S = .ok (.lst true ((ds.filter p).map fun d => cool (f d))) S1 := by
  unfold mComp
  rw [hs]
  simp only [bind_ok, compL_pure p f ds h]
  rw [if_pos]
  rw [List.length_map]
  exact Nat.le_trans (List.length_filter_le _ _) hl
/-! ### ints, tuples of ints -/
abbrev tI (ns : List Int) : D := .tup (ns.map .int)
theorem intsOf_map : ∀ ns : List Int, intsOf (ns.map D.int) = some ns
  | [] => rfl
  | n :: ns => by simp [intsOf, intsOf_map ns]
theorem blsOf_map : ∀ ns : List Bool, blsOf (ns.map D.bl) = some ns
  | [] => rfl
  | n :: ns => by simp [blsOf, blsOf_map ns]
theorem toPyL_int : ∀ ns : List Int, toPyL (ns.map D.int) = some (ns.map PyData.int)
  | [] => by simp [toPyL]
  | n :: ns => by simp [toPyL, toPy, toPyL_int ns]
theorem toPy_tI (ns : List Int) : toPy (tI ns) = some (.tuple (ns.map .int)) := by simp [toPy, toPyL_int]
theorem canLay_ints : ∀ ns : List Int, PyData.canLayAll0 (ns.map PyData.int) = true
  | [] => by simp [PyData.canLayAll0]
  | n :: ns => by simp [PyData.canLayAll0, PyData.canLay0, canLay_ints ns]
theorem depth_ints : ∀ ns : List Int, PyData.depthAll (ns.map PyData.int) = 0
  | [] => by simp [PyData.depthAll]
  | n :: ns => by simp [PyData.depthAll, PyData.depth, depth_ints ns]
theorem shaped_int (i : Int) : SeqAt.shaped (.int i) = true := by simp [SeqAt.shaped, PyData.canLay0, PyData.depth]
theorem shaped_tI (ns : List Int) : SeqAt.shaped (.tuple (ns.map .int)) = true := by simp [SeqAt.shaped, PyData.canLay0, canLay_ints, PyData.depth, depth_ints]
theorem shaped_lI (ns : List Int) : SeqAt.shaped (.list (ns.map .int)) = true := by simp [SeqAt.shaped, PyData.canLay0, canLay_ints, PyData.depth, depth_ints]
end Dv
namespace Dv
open PySem PySem.Spec PyProof.Rows L2
set_option autoImplicit false
/-! ### comparisons of data -/
theorem eqv_int (i j : Int) : PyData.eqv (.int i) (.int j) = (i == j) := by simp [PyData.eqv]
theorem eqvAll_ints : ∀ a b : List Int, PyData.eqvAll (a.map .int) (b.map .int) = decide (a = b)
  | [], [] => by simp [PyData.eqvAll]
  | [], y :: ys => by simp [PyData.eqvAll]
  | x :: xs, [] => by simp [PyData.eqvAll]
  | x :: xs, y :: ys => by
    simp only [List.map_cons, PyData.eqvAll, eqv_int, eqvAll_ints xs ys]
    by_cases h : x = y <;> by_cases h2 : xs = ys <;> simp [h, h2]
theorem any_eqv_ints (i : Int) : ∀ ns : List Int, (ns.map PyData.int).any (fun z => PyData.eqv z (.int i)) = decide (i ∈ ns)
  | [] => by simp
  | n :: ns => by
    simp only [List.map_cons, List.any_cons, eqv_int, any_eqv_ints i ns]
    by_cases h : n = i
    · subst h; simp
    · have : ¬ i = n := fun z => h z.symm
      by_cases h2 : i ∈ ns <;> simp [h, h2, this]
theorem pyOf_int (S : Store) (i : Int) : pyOf S (.int i) = some (.int i) := by simp [pyOf, vw, toPy, shaped_int]
theorem pyOf_tI (S : Store) (ns : List Int) : pyOf S (tI ns) = some (.tuple (ns.map .int)) := by simp [pyOf, vw, toPy_tI, shaped_tI]
theorem pyOf_lI (S : Store) (f : Bool) (ns : List Int) : pyOf S (.lst f (ns.map .int)) = some (.list (ns.map .int)) := by simp [pyOf, vw, toPy, toPyL_int, shaped_lI]
theorem inD_tI (S : Store) (i : Int) (ns : List Int) : inD S (.int i) (tI ns) = some (decide (i ∈ ns)) := by
  simp only [inD, pyOf_int, pySeq, pyOf_tI, any_eqv_ints]
theorem eqD_tI (S : Store) (a b : List Int) : eqD S (tI a) (tI b) = some (decide (a = b)) := by
  simp [eqD, vw, pyOf_tI, PyData.eqv, eqvAll_ints]
theorem eqD_lI (S : Store) (f g : Bool) (a b : List Int) : eqD S (.lst f (a.map .int)) (.lst g (b.map .int)) = some (decide (a = b)) := by
  simp [eqD, vw, pyOf_lI, PyData.eqv, eqvAll_ints]
theorem eqD_lI_nil (S : Store) (f g : Bool) (a : List Int) : eqD S (.lst f (a.map .int)) (.lst g []) = some (decide (a = [])) := eqD_lI S f g a []
/-! ### sizes of texts -/
theorem isNew_map_int (f : Bool) (ns : List Int) : isNew (tI ns) = false := rfl
/-- short data: what may be shown -/
structure Sh (w n : Nat) (p : PyData) : Prop where
  show_ : p.showable = true
  noD : p.hasDict = false
  dep : p.depth ≤ n
  leaf : p.leavesShort 13 = true
  wt : p.weight ≤ w
structure ShA (w n : Nat) (ps : List PyData) : Prop where
  show_ : PyData.showableAll ps = true
  noD : PyData.hasDictAll ps = false
  dep : PyData.depthAll ps ≤ n
  leaf : PyData.leavesShortAll 13 ps = true
  wt : PyData.weightAll ps ≤ w
theorem ShA.nil {w n : Nat} : ShA w n [] := ⟨by simp [PyData.showableAll], by simp [PyData.hasDictAll], by simp [PyData.depthAll], by simp [PyData.leavesShortAll], by simp [PyData.weightAll]⟩
theorem ShA.cons {w w1 w2 n : Nat} {p : PyData} {ps : List PyData} (h : Sh w1 n p) (h2 : ShA w2 n ps) (hw : w1 + 1 + w2 ≤ w) : ShA w n (p :: ps) := by
  have a := h.wt
  have b := h2.wt
  refine ⟨by simp [PyData.showableAll, h.show_, h2.show_], by simp [PyData.hasDictAll, h.noD, h2.noD], ?_, by simp [PyData.leavesShortAll, h.leaf, h2.leaf], ?_⟩
  · simp only [PyData.depthAll]; exact Nat.max_le.mpr ⟨h.dep, h2.dep⟩
  · simp only [PyData.weightAll]; omega
theorem ShA.list {w n : Nat} {ps : List PyData} (h : ShA w n ps) : Sh w (n + 1) (.list ps) :=
  ⟨by simp [PyData.showable, h.show_], by simp [PyData.hasDict, h.noD], by simp [PyData.depth, h.dep], by simp [PyData.leavesShort, h.leaf], by simp [PyData.weight, h.wt]⟩
theorem ShA.tuple {w n : Nat} {ps : List PyData} (h : ShA w n ps) : Sh w (n + 1) (.tuple ps) :=
  ⟨by simp [PyData.showable, h.show_], by simp [PyData.hasDict, h.noD], by simp [PyData.depth, h.dep], by simp [PyData.leavesShort, h.leaf], by simp [PyData.weight, h.wt]⟩
theorem Sh.mono {w w' n n' : Nat} {p : PyData} (h : Sh w n p) (hw : w ≤ w') (hn : n ≤ n') : Sh w' n' p := ⟨h.show_, h.noD, Nat.le_trans h.dep hn, h.leaf, Nat.le_trans h.wt hw⟩
theorem Sh.ok {w n : Nat} {p : PyData} (h : Sh w n p) (hd : isDisp p = true) (hw : w ≤ 1048576) (hn : n ≤ 60) : showOk p = true := by
  have fit := PyData.shown_fits (B := 13) (by decide) (by decide) h.leaf (by have := h.wt; omega)
  rw [line_eq] at fit
  have := h.dep
  simp only [showOk, hd, h.show_, h.noD, Bool.not_false, Bool.and_self, Bool.true_and, Bool.and_eq_true, decide_eq_true_eq]
  exact ⟨by omega, fit⟩
theorem Sh.bl {n : Nat} (b : Bool) : Sh 0 n (.bool b) := ⟨by simp [PyData.showable], by simp [PyData.hasDict], by simp [PyData.depth], by simp [PyData.leavesShort], by simp [PyData.weight]⟩
theorem Sh.non {n : Nat} : Sh 0 n .none := ⟨by simp [PyData.showable], by simp [PyData.hasDict], by simp [PyData.depth], by simp [PyData.leavesShort], by simp [PyData.weight]⟩
/-- an int of few digits -/
theorem sh_small : ∀ k : Nat, k < 64 → (PyData.shown (.int (k : Int))).length ≤ 13 ∧ (PyData.shown (.int (-(k : Int)))).length ≤ 13 := by decide +kernel
theorem Sh.int {n : Nat} {i : Int} (h : -64 < i) (h2 : i < 64) : Sh 7 n (.int i) := by
  have hl : i.natAbs.log2 < 7 := by
    rcases Nat.eq_zero_or_pos i.natAbs with z | z
    · rw [z]; decide
    · exact (Nat.log2_lt (by omega)).mpr (by omega)
  refine ⟨by simp only [PyData.showable, decide_eq_true_eq]; omega, by simp [PyData.hasDict], by simp [PyData.depth], ?_, ?_⟩
  · simp only [PyData.leavesShort, decide_eq_true_eq]
    obtain ⟨a, b⟩ := sh_small i.natAbs (by omega)
    rcases Int.natAbs_eq i with e | e
    · rw [e]; exact a
    · rw [e]; exact b
  · simp only [PyData.weight]
    split
    · omega
    · omega
theorem ShA.ints {n : Nat} : ∀ {ns : List Int}, (∀ i ∈ ns, -64 < i ∧ i < 64) → ShA (8 * ns.length) n (ns.map .int)
  | [], _ => .nil
  | i :: ns, h => ShA.cons (Sh.int (h i List.mem_cons_self).1 (h i List.mem_cons_self).2) (ShA.ints fun j hj => h j (List.mem_cons_of_mem _ hj)) (by simp only [List.length_cons]; omega)
end Dv

set_option maxHeartbeats 4000000
namespace Dv
open PySem PySem.Spec PyProof.Rows L2
set_option autoImplicit false
/-! ### denotations, one step at a time: equations for simp -/
theorem bind_cong {α β : Type} {r r' : Res α} (h : r = r') (k : α → Store → Res β) : r.bind k = r'.bind k := by rw [h]
theorem bindE_cong {α : Type} {r r' : Res α} (h : r = r') (ρ : Rho) (k : α → Store → ResS) : bindE r ρ k = bindE r' ρ k := by rw [h]
section
variable {ρ : Rho} {S S1 : Store} {m n o : ME} {a : MA} {c t u : MT} {f g : Store → D → D → Option D} {f1 : Store → D → Option D} {fc : Store → List D → Option D}
def varR (x : Option (Option D)) (S : Store) : Res D := match x with
  | some (some d) => if isNew d then .bad else .ok d S
  | _ => .bad
@[simp] theorem varR_some (d : D) : varR (some (some d)) S = if isNew d then .bad else .ok d S := rfl
@[simp] theorem ev_var {i : Nat} : mVar i ρ S = varR ρ[i]? S := by
  unfold mVar varR
  cases ρ[i]? with
  | none => rfl
  | some x => cases x <;> rfl
@[simp] theorem ev_k {d : D} : mK d ρ S = .ok d S := rfl
def kOp2 (f : Store → D → D → Option D) (d e : D) (S2 : Store) : Res D := opt (f S2 d e) S2
def kOp1 (f : Store → D → D → Option D) (n : ME) (ρ : Rho) (d : D) (S1 : Store) : Res D := (n ρ S1).bind (kOp2 f d)
@[simp] theorem kOp2_eq {d e : D} : kOp2 f d e S = opt (f S d e) S := rfl
@[simp] theorem kOp1_eq {d : D} : kOp1 f n ρ d S = (n ρ S).bind (kOp2 f d) := rfl
@[simp] theorem ev_op : mOp f m n ρ S = (m ρ S).bind (kOp1 f n ρ) := rfl
def kUn (f : Store → D → Option D) (d : D) (S1 : Store) : Res D := opt (f S1 d) S1
@[simp] theorem kUn_eq {d : D} : kUn f1 d S = opt (f1 S d) S := rfl
@[simp] theorem ev_un : mUn f1 m ρ S = (m ρ S).bind (kUn f1) := rfl
def kBlt (f : Store → List D → Option D) (d : List D) (S1 : Store) : Res D := opt (f S1 d) S1
@[simp] theorem kBlt_eq {d : List D} : kBlt fc d S = opt (fc S d) S := rfl
@[simp] theorem ev_blt : mBlt fc a ρ S = (a ρ S).bind (kBlt fc) := rfl
@[simp] theorem ev_aNil : aNil ρ S = .ok [] S := rfl
def kA2 (d : D) (ds : List D) (S2 : Store) : Res (List D) := .ok (d :: ds) S2
def kA1 (a : MA) (ρ : Rho) (d : D) (S1 : Store) : Res (List D) := (a ρ S1).bind (kA2 d)
@[simp] theorem kA2_eq {d : D} {ds : List D} : kA2 d ds S = .ok (d :: ds) S := rfl
@[simp] theorem kA1_eq {d : D} : kA1 a ρ d S = (a ρ S).bind (kA2 d) := rfl
@[simp] theorem ev_aCons : aCons m a ρ S = (m ρ S).bind (kA1 a ρ) := rfl
@[simp] theorem opt_some (x : D) : opt (some x) S = .ok x S := rfl
@[simp] theorem optB_some (b : Bool) : optB (some b) S = .ok b S := rfl
def kT (d : D) (S1 : Store) : Res Bool := optB (truD S1 d) S1
@[simp] theorem kT_eq {d : D} : kT d S = optB (truD S d) S := rfl
@[simp] theorem ev_T : mT m ρ S = (m ρ S).bind kT := rfl
def tbR (d : D) (S : Store) : Res Bool := match d with
  | .bl b => .ok b S
  | _ => .bad
@[simp] theorem tbR_bl (b : Bool) : tbR (.bl b) S = .ok b S := rfl
@[simp] theorem ev_TB : mTB m ρ S = (m ρ S).bind tbR := rfl
def kAndT (t : MT) (ρ : Rho) (b : Bool) (S1 : Store) : Res Bool := if b then t ρ S1 else .ok false S1
def kOrT (t : MT) (ρ : Rho) (b : Bool) (S1 : Store) : Res Bool := if b then .ok true S1 else t ρ S1
def kNotT (b : Bool) (S1 : Store) : Res Bool := .ok (!b) S1
@[simp] theorem kAndT_eq {b : Bool} : kAndT t ρ b S = if b then t ρ S else .ok false S := rfl
@[simp] theorem kOrT_eq {b : Bool} : kOrT t ρ b S = if b then .ok true S else t ρ S := rfl
@[simp] theorem kNotT_eq {b : Bool} : kNotT b S = .ok (!b) S := rfl
@[simp] theorem ev_AndT : mAndT c t ρ S = (c ρ S).bind (kAndT t ρ) := rfl
@[simp] theorem ev_OrT : mOrT c t ρ S = (c ρ S).bind (kOrT t ρ) := rfl
@[simp] theorem ev_NotT : mNotT c ρ S = (c ρ S).bind kNotT := rfl
def oAnd (o : Option Bool) (n : ME) (ρ : Rho) (d : D) (S : Store) : Res D := match o with
  | some true => n ρ S
  | some false => .ok d S
  | none => .bad
def oOr (o : Option Bool) (n : ME) (ρ : Rho) (d : D) (S : Store) : Res D := match o with
  | some true => .ok d S
  | some false => n ρ S
  | none => .bad
def oNot (o : Option Bool) (S : Store) : Res D := match o with
  | some b => .ok (.bl (!b)) S
  | none => .bad
@[simp] theorem oAnd_some {b : Bool} {d : D} : oAnd (some b) n ρ d S = if b then n ρ S else .ok d S := by cases b <;> rfl
@[simp] theorem oOr_some {b : Bool} {d : D} : oOr (some b) n ρ d S = if b then .ok d S else n ρ S := by cases b <;> rfl
@[simp] theorem oNot_some {b : Bool} : oNot (some b) S = .ok (.bl (!b)) S := rfl
def kAnd (n : ME) (ρ : Rho) (d : D) (S1 : Store) : Res D := oAnd (truD S1 d) n ρ d S1
def kOr (n : ME) (ρ : Rho) (d : D) (S1 : Store) : Res D := oOr (truD S1 d) n ρ d S1
def kNot (d : D) (S1 : Store) : Res D := oNot (truD S1 d) S1
@[simp] theorem kAnd_eq {d : D} : kAnd n ρ d S = oAnd (truD S d) n ρ d S := rfl
@[simp] theorem kOr_eq {d : D} : kOr n ρ d S = oOr (truD S d) n ρ d S := rfl
@[simp] theorem kNot_eq {d : D} : kNot d S = oNot (truD S d) S := rfl
@[simp] theorem ev_And : mAnd m n ρ S = (m ρ S).bind (kAnd n ρ) := rfl
@[simp] theorem ev_Or : mOr m n ρ S = (m ρ S).bind (kOr n ρ) := rfl
@[simp] theorem ev_Not : mNot m ρ S = (m ρ S).bind kNot := rfl
def kIf (m n : ME) (ρ : Rho) (b : Bool) (S1 : Store) : Res D := if b then m ρ S1 else n ρ S1
@[simp] theorem kIf_eq {b : Bool} : kIf m n ρ b S = if b then m ρ S else n ρ S := rfl
@[simp] theorem ev_If : mIf c m n ρ S = (c ρ S).bind (kIf m n ρ) := rfl
def kIsN (d : D) (S1 : Store) : Res D := .ok (.bl (isN d)) S1
def kNotN (d : D) (S1 : Store) : Res D := .ok (.bl (!isN d)) S1
@[simp] theorem kIsN_eq {d : D} : kIsN d S = .ok (.bl (isN d)) S := rfl
@[simp] theorem kNotN_eq {d : D} : kNotN d S = .ok (.bl (!isN d)) S := rfl
@[simp] theorem ev_isN : mIsN m ρ S = (m ρ S).bind kIsN := rfl
@[simp] theorem ev_notN : mNotN m ρ S = (m ρ S).bind kNotN := rfl
def kCh3 (g : Store → D → D → Option D) (e x : D) (S3 : Store) : Res D := opt (g S3 e x) S3
def chR (r : Option D) (g : Store → D → D → Option D) (o : ME) (ρ : Rho) (e : D) (S : Store) : Res D := match r with
  | some (.bl true) => (o ρ S).bind (kCh3 g e)
  | some (.bl false) => .ok (.bl false) S
  | _ => .bad
@[simp] theorem kCh3_eq {e x : D} : kCh3 g e x S = opt (g S e x) S := rfl
@[simp] theorem chR_bl {b : Bool} {e : D} : chR (some (.bl b)) g o ρ e S = if b then (o ρ S).bind (kCh3 g e) else .ok (.bl false) S := by cases b <;> rfl
def kCh2 (f g : Store → D → D → Option D) (o : ME) (ρ : Rho) (d e : D) (S2 : Store) : Res D := chR (f S2 d e) g o ρ e S2
def kCh1 (f g : Store → D → D → Option D) (n o : ME) (ρ : Rho) (d : D) (S1 : Store) : Res D := (n ρ S1).bind (kCh2 f g o ρ d)
@[simp] theorem kCh2_eq {d e : D} : kCh2 f g o ρ d e S = chR (f S d e) g o ρ e S := rfl
@[simp] theorem kCh1_eq {d : D} : kCh1 f g n o ρ d S = (n ρ S).bind (kCh2 f g o ρ d) := rfl
@[simp] theorem ev_chain : mChain f g m n o ρ S = (m ρ S).bind (kCh1 f g n o ρ) := rfl
def kTup (ds : List D) (S1 : Store) : Res D := if plainL ds && decide (ds.length ≤ LINE) then .ok (.tup (coolL ds)) S1 else .bad
def kLst (ds : List D) (S1 : Store) : Res D := if plainL ds && decide (ds.length ≤ LINE) then .ok (.lst true (coolL ds)) S1 else .bad
@[simp] theorem kTup_eq {ds : List D} : kTup ds S = if plainL ds && decide (ds.length ≤ LINE) then .ok (.tup (coolL ds)) S else .bad := rfl
@[simp] theorem kLst_eq {ds : List D} : kLst ds S = if plainL ds && decide (ds.length ≤ LINE) then .ok (.lst true (coolL ds)) S else .bad := rfl
@[simp] theorem ev_tup : mTup a ρ S = (a ρ S).bind kTup := rfl
@[simp] theorem ev_lst : mLst a ρ S = (a ρ S).bind kLst := rfl
def kCall (fn : Fn) (k : Nat) (ds : List D) (S1 : Store) : Res D := if argsOk ds && decide (ds.length = k) then fn (coolA ds) S1 else .bad
@[simp] theorem kCall_eq {fn : Fn} {k : Nat} {ds : List D} : kCall fn k ds S = if argsOk ds && decide (ds.length = k) then fn (coolA ds) S else .bad := rfl
@[simp] theorem ev_call {fn : Fn} {k : Nat} : mCall fn k a ρ S = (a ρ S).bind (kCall fn k) := rfl
def kCut3 (d : D) (lo hi : Option Int) (S3 : Store) : Res D := opt (dCut S3 d lo hi) S3
def kCut2 (h : MO) (ρ : Rho) (d : D) (lo : Option Int) (S2 : Store) : Res D := (h ρ S2).bind (kCut3 d lo)
def kCut1 (l h : MO) (ρ : Rho) (d : D) (S1 : Store) : Res D := (l ρ S1).bind (kCut2 h ρ d)
@[simp] theorem kCut3_eq {d : D} {lo hi : Option Int} : kCut3 d lo hi S = opt (dCut S d lo hi) S := rfl
@[simp] theorem kCut2_eq {h : MO} {d : D} {lo : Option Int} : kCut2 h ρ d lo S = (h ρ S).bind (kCut3 d lo) := rfl
@[simp] theorem kCut1_eq {l h : MO} {d : D} : kCut1 l h ρ d S = (l ρ S).bind (kCut2 h ρ d) := rfl
@[simp] theorem ev_cut {l h : MO} : mCut m l h ρ S = (m ρ S).bind (kCut1 l h ρ) := rfl
@[simp] theorem ev_oNone : oNone ρ S = .ok none S := rfl
def oR (d : D) (S : Store) : Res (Option Int) := match d with
  | .int i => .ok (some i) S
  | _ => .bad
@[simp] theorem oR_int (i : Int) : oR (.int i) S = .ok (some i) S := rfl
@[simp] theorem ev_oSome : oSome m ρ S = (m ρ S).bind oR := rfl
def kRev (d : D) (S1 : Store) : Res D := opt (dRev S1 d) S1
@[simp] theorem kRev_eq {d : D} : kRev d S = opt (dRev S d) S := rfl
@[simp] theorem ev_rev : mRev m ρ S = (m ρ S).bind kRev := rfl
@[simp] theorem ev_dct0 : mDct0 ρ S = .ok (.dct true []) S := rfl
/-! statements -/
def seqR (r : ResS) (n : MS) : ResS := match r with
  | .nx ρ' S' => n ρ' S'
  | r => r
@[simp] theorem seqR_nx (ρ : Rho) (S : Store) (n : MS) : seqR (.nx ρ S) n = n ρ S := rfl
@[simp] theorem seqR_rt (d : D) (S : Store) (n : MS) : seqR (.rt d S) n = .rt d S := rfl
@[simp] theorem seqR_exc (c : Nat) (fs : List D) (ρ : Rho) (S : Store) (n : MS) : seqR (.exc c fs ρ S) n = .exc c fs ρ S := rfl
@[simp] theorem seqR_ct (ρ : Rho) (S : Store) (n : MS) : seqR (.ct ρ S) n = .ct ρ S := rfl
@[simp] theorem seqR_bk (ρ : Rho) (S : Store) (n : MS) : seqR (.bk ρ S) n = .bk ρ S := rfl
@[simp] theorem ev_seq {m n : MS} : mSeq m n ρ S = seqR (m ρ S) n := by
  unfold mSeq seqR
  cases m ρ S <;> rfl
@[simp] theorem ev_skip : mSkip ρ S = .nx ρ S := rfl
@[simp] theorem ev_break : mBreak ρ S = .bk ρ S := rfl
@[simp] theorem ev_cont : mCont ρ S = .ct ρ S := rfl
@[simp] theorem ev_ret : mRet m ρ S = bindE (m ρ S) ρ ResS.rt := rfl
@[simp] theorem ev_retN : mRetN ρ S = .rt .non S := rfl
def kDrop (ρ : Rho) (_ : D) (S1 : Store) : ResS := .nx ρ S1
@[simp] theorem kDrop_eq {d : D} : kDrop ρ d S = .nx ρ S := rfl
@[simp] theorem ev_drop : mDrop m ρ S = bindE (m ρ S) ρ (kDrop ρ) := rfl
def kIfS (m n : MS) (ρ : Rho) (b : Bool) (S1 : Store) : ResS := if b then m ρ S1 else n ρ S1
@[simp] theorem kIfS_eq {m n : MS} {b : Bool} : kIfS m n ρ b S = if b then m ρ S else n ρ S := rfl
@[simp] theorem ev_ifS {m n : MS} : mIfS c m n ρ S = bindE (c ρ S) ρ (kIfS m n ρ) := rfl
def kSetV (b i : Nat) (ρ : Rho) (d : D) (S1 : Store) : ResS := holdV b i d ρ S1
def kSetO (b i : Nat) (ρ : Rho) (d : D) (S1 : Store) : ResS := holdO b i d ρ S1
@[simp] theorem kSetV_eq {b i : Nat} {d : D} : kSetV b i ρ d S = holdV b i d ρ S := rfl
@[simp] theorem kSetO_eq {b i : Nat} {d : D} : kSetO b i ρ d S = holdO b i d ρ S := rfl
@[simp] theorem ev_setV {b i : Nat} : mSetV b i m ρ S = bindE (m ρ S) ρ (kSetV b i ρ) := rfl
@[simp] theorem ev_setO {b i : Nat} : mSetO b i m ρ S = bindE (m ρ S) ρ (kSetO b i ρ) := rfl
def kIx3 (ρ : Rho) (d c j : D) (S3 : Store) : ResS := setAt ρ S3 c j d
def kIx2 (i : ME) (ρ : Rho) (d c : D) (S2 : Store) : ResS := bindE (i ρ S2) ρ (kIx3 ρ d c)
def kIx1 (o i : ME) (ρ : Rho) (d : D) (S1 : Store) : ResS := bindE (o ρ S1) ρ (kIx2 i ρ d)
@[simp] theorem kIx3_eq {d e j : D} : kIx3 ρ d e j S = setAt ρ S e j d := rfl
@[simp] theorem kIx2_eq {i : ME} {d e : D} : kIx2 i ρ d e S = bindE (i ρ S) ρ (kIx3 ρ d e) := rfl
@[simp] theorem kIx1_eq {o i : ME} {d : D} : kIx1 o i ρ d S = bindE (o ρ S) ρ (kIx2 i ρ d) := rfl
@[simp] theorem ev_setIx {o i : ME} : mSetIx m o i ρ S = bindE (m ρ S) ρ (kIx1 o i ρ) := rfl
def kPar3 (b j : Nat) (oj : Bool) (e : D) (ρ1 : Rho) (S3 : Store) : ResS := if oj then holdO b j e ρ1 S3 else holdV b j e ρ1 S3
def kPar2 (b i j : Nat) (oj : Bool) (ρ : Rho) (d e : D) (S2 : Store) : ResS := seqR (holdV b i d ρ S2) (kPar3 b j oj e)
def kPar1 (b i j : Nat) (oj : Bool) (n : ME) (ρ : Rho) (d : D) (S1 : Store) : ResS := bindE (n ρ S1) ρ (kPar2 b i j oj ρ d)
@[simp] theorem kPar3_eq {b j : Nat} {oj : Bool} {e : D} : kPar3 b j oj e ρ S = if oj then holdO b j e ρ S else holdV b j e ρ S := rfl
@[simp] theorem kPar2_eq {b i j : Nat} {oj : Bool} {d e : D} : kPar2 b i j oj ρ d e S = seqR (holdV b i d ρ S) (kPar3 b j oj e) := rfl
@[simp] theorem kPar1_eq {b i j : Nat} {oj : Bool} {d : D} : kPar1 b i j oj n ρ d S = bindE (n ρ S) ρ (kPar2 b i j oj ρ d) := rfl
@[simp] theorem ev_par {b i j : Nat} {oj : Bool} : mPar b i j oj m n ρ S = bindE (m ρ S) ρ (kPar1 b i j oj n ρ) := rfl
def kFor (tg : Tg) (b : MS) (ρ : Rho) (ds : List D) (S1 : Store) : ResS := forL tg b ds ρ S1
@[simp] theorem kFor_eq {tg : Tg} {b : MS} {ds : List D} : kFor tg b ρ ds S = forL tg b ds ρ S := rfl
@[simp] theorem ev_for {src : Src} {tg : Tg} {b : MS} : mFor src tg b ρ S = bindE (src ρ S) ρ (kFor tg b ρ) := rfl
@[simp] theorem hV_int {b i : Nat} (k : Int) : holdV b i (.int k) ρ S = .nx (ρ.set i (some (.int k))) S := rfl
@[simp] theorem hV_bl {b i : Nat} (k : Bool) : holdV b i (.bl k) ρ S = .nx (ρ.set i (some (.bl k))) S := rfl
@[simp] theorem hV_str {b i : Nat} (k : Str) : holdV b i (.str k) ρ S = .nx (ρ.set i (some (.str k))) S := rfl
@[simp] theorem hV_non {b i : Nat} : holdV b i .non ρ S = .nx (ρ.set i (some .non)) S := rfl
@[simp] theorem hV_tup {b i : Nat} (xs : List D) : holdV b i (.tup xs) ρ S = .nx (ρ.set i (some (.tup xs))) S := rfl
@[simp] theorem hV_lst {b i : Nat} (k : Bool) (xs : List D) : holdV b i (.lst k xs) ρ S = .nx (ρ.set i (some (.lst false xs))) S := rfl
/-! sources, comprehensions -/
def kR1 (ds : List D) (S1 : Store) : Res (List D) := match ds with
  | [.int j] => if j ≤ 16777216 ∧ -16777216 ≤ j then .ok (rngD 0 j.toNat) S1 else .bad
  | _ => .bad
@[simp] theorem kR1_int (j : Int) : kR1 [.int j] S = if j ≤ 16777216 ∧ -16777216 ≤ j then .ok (rngD 0 j.toNat) S else .bad := rfl
@[simp] theorem ev_srR1 : srR1 a ρ S = (a ρ S).bind kR1 := rfl
def kR2 (ds : List D) (S1 : Store) : Res (List D) := match ds with
  | [.int i, .int j] => if j ≤ 16777216 ∧ -16777216 ≤ j ∧ i ≤ 16777216 ∧ -16777216 ≤ i then .ok (rngD i (j - i).toNat) S1 else .bad
  | _ => .bad
@[simp] theorem kR2_int (i j : Int) : kR2 [.int i, .int j] S = if j ≤ 16777216 ∧ -16777216 ≤ j ∧ i ≤ 16777216 ∧ -16777216 ≤ i then .ok (rngD i (j - i).toNat) S else .bad := rfl
@[simp] theorem ev_srR2 : srR2 a ρ S = (a ρ S).bind kR2 := rfl
def kL (d : D) (S1 : Store) : Res (List D) := match d with
  | .lst _ xs => .ok xs S1
  | .rol xs => .ok xs S1
  | _ => .bad
@[simp] theorem kL_lst (f : Bool) (xs : List D) : kL (.lst f xs) S = .ok xs S := rfl
@[simp] theorem kL_rol (xs : List D) : kL (.rol xs) S = .ok xs S := rfl
@[simp] theorem ev_srL : srL m ρ S = (m ρ S).bind kL := rfl
def kTu (d : D) (S1 : Store) : Res (List D) := match d with
  | .tup xs => .ok xs S1
  | _ => .bad
@[simp] theorem kTu_tup (xs : List D) : kTu (.tup xs) S = .ok xs S := rfl
@[simp] theorem ev_srT : srT m ρ S = (m ρ S).bind kTu := rfl
def kE (ds : List D) (S1 : Store) : Res (List D) := match ds with
  | [.lst _ xs] => .ok (enumFrom 0 xs) S1
  | [.rol xs] => .ok (enumFrom 0 xs) S1
  | _ => .bad
@[simp] theorem kE_lst (f : Bool) (xs : List D) : kE [.lst f xs] S = .ok (enumFrom 0 xs) S := rfl
@[simp] theorem ev_srE : srE a ρ S = (a ρ S).bind kE := rfl
def kZ (ds : List D) (S1 : Store) : Res (List D) := match ds with
  | [.lst _ xs, .lst _ ys] => .ok (zipD xs ys) S1
  | [.tup xs, .tup ys] => .ok (zipD xs ys) S1
  | _ => .bad
@[simp] theorem kZ_lst (f g : Bool) (xs ys : List D) : kZ [.lst f xs, .lst g ys] S = .ok (zipD xs ys) S := rfl
@[simp] theorem kZ_tup (xs ys : List D) : kZ [.tup xs, .tup ys] S = .ok (zipD xs ys) S := rfl
@[simp] theorem ev_srZ : srZ a ρ S = (a ρ S).bind kZ := rfl
def cpR (r : Res (List D)) : Res D := match r with
  | .ok ys S2 => if ys.length ≤ LINE then .ok (.lst true ys) S2 else .bad
  | _ => .bad
@[simp] theorem cpR_ok (ys : List D) : cpR (.ok ys S) = if ys.length ≤ LINE then .ok (.lst true ys) S else .bad := rfl
def kComp (vs : List Nat) (t : Tg) (test : MT) (elt : ME) (ρ : Rho) (ds : List D) (S1 : Store) : Res D := cpR (compL t test elt (wipeR ρ vs) ds S1)
@[simp] theorem kComp_eq {vs : List Nat} {tg : Tg} {test : MT} {elt : ME} {ds : List D} : kComp vs tg test elt ρ ds S = cpR (compL tg test elt (wipeR ρ vs) ds S) := rfl
@[simp] theorem ev_comp {src : Src} {vs : List Nat} {tg : Tg} {test : MT} {elt : ME} : mComp src vs tg test elt ρ S = (src ρ S).bind (kComp vs tg test elt ρ) := rfl
def kTupRg (d : Int × Int) (S1 : Store) : Res D := if rgFine d.1 d.2 then .ok (.tup (rgD d.1 d.2)) S1 else .bad
@[simp] theorem kTupRg_eq (d : Int × Int) : kTupRg d S = if rgFine d.1 d.2 then .ok (.tup (rgD d.1 d.2)) S else .bad := rfl
@[simp] theorem ev_tupRg {r : Rho → Store → Res (Int × Int)} : mTupRg r ρ S = (r ρ S).bind kTupRg := rfl
def kLstRg (d : Int × Int) (S1 : Store) : Res D := if rgFine d.1 d.2 then .ok (.lst true (rgD d.1 d.2)) S1 else .bad
@[simp] theorem kLstRg_eq (d : Int × Int) : kLstRg d S = if rgFine d.1 d.2 then .ok (.lst true (rgD d.1 d.2)) S else .bad := rfl
@[simp] theorem ev_lstRg {r : Rho → Store → Res (Int × Int)} : mLstRg r ρ S = (r ρ S).bind kLstRg := rfl
def kRg1 (d : D) (S1 : Store) : Res (Int × Int) := match d with
  | .int n => .ok (0, n) S1
  | _ => .bad
@[simp] theorem kRg1_int (n : Int) : kRg1 (.int n) S = .ok (0, n) S := rfl
@[simp] theorem ev_rg1 : mRg1 m ρ S = (m ρ S).bind kRg1 := rfl
def kSST (d : D) (S1 : Store) : Res D := match vw S1 d with
  | .tup xs => match intsOf xs with
    | some ns => if decide (ns.length ≤ 1000) && decide ((usort ns).length < 64) then .ok (.lst true ((usort ns).map .int)) S1 else .bad
    | none => .bad
  | _ => .bad
@[simp] theorem kSST_tup (ns : List Int) : kSST (tI ns) S = if decide (ns.length ≤ 1000) && decide ((usort ns).length < 64) then .ok (.lst true ((usort ns).map .int)) S else .bad := by
  simp only [kSST, vw, intsOf_map]
@[simp] theorem ev_SST : mSortSetT m ρ S = (m ρ S).bind kSST := rfl
theorem compL_map {t : Tg} {elt : ME} {ρ : Rho} {S : Store} (f : D → D) : ∀ (ds : List D), (∀ d ∈ ds, ∃ ρ1, t d ρ = some ρ1 ∧ elt ρ1 S = .ok (f d) S ∧ Dv.plain (f d) = true) →
    compL t tYesM elt ρ ds S = .ok (ds.map fun d => Dv.cool (f d)) S
  | [], _ => rfl
  | d :: ds, h => by
    obtain ⟨ρ1, h1, h2, h3⟩ := h d List.mem_cons_self
    have ih := compL_map f ds fun e he => h e (List.mem_cons_of_mem _ he)
    simp [compL, tYesM, h1, h2, h3] at ih ⊢
    simp [ih]
theorem compL_filter {t : Tg} {test : MT} {elt : ME} {ρ : Rho} {S : Store} (p : D → Bool) : ∀ (ds : List D), (∀ d ∈ ds, ∃ ρ1, t d ρ = some ρ1 ∧ test ρ1 S = .ok (p d) S ∧ elt ρ1 S = .ok d S ∧ Dv.plain d = true ∧ Dv.cool d = d) →
    compL t test elt ρ ds S = .ok (ds.filter p) S
  | [], _ => rfl
  | d :: ds, h => by
    obtain ⟨ρ1, h1, h2, h3, h4, h5⟩ := h d List.mem_cons_self
    have ih := compL_filter p ds fun e he => h e (List.mem_cons_of_mem _ he)
    simp only [compL, h1, h2, h3, h4, if_true]
    cases hp : p d <;> simp [hp, ih, h5]
def kMu2 (f : List D → List D → Option (List D × D)) (n : Nat) (args : List D) (S2 : Store) : Res D := match cellL S2 n with
  | some (fl, xs) => match f xs args with
    | some (xs', x) => if isNew x then .bad else .ok x (S2.set n (some (.lst fl xs')))
    | none => .bad
  | none => .bad
def kMu1 (f : List D → List D → Option (List D × D)) (a : MA) (ρ : Rho) (d : D) (S1 : Store) : Res D := match d with
  | .loc n => if (cellL S1 n).isSome then (a ρ S1).bind (kMu2 f n) else .bad
  | _ => .bad
@[simp] theorem kMu1_loc {f : List D → List D → Option (List D × D)} {k : Nat} : kMu1 f a ρ (.loc k) S = if (cellL S k).isSome then (a ρ S).bind (kMu2 f k) else .bad := rfl
@[simp] theorem ev_mut {f : List D → List D → Option (List D × D)} : mMut f m a ρ S = (m ρ S).bind (kMu1 f a ρ) := rfl
theorem cellL_of {k : Nat} {fl : Bool} {xs : List D} (h : S[k]? = some (some (.lst fl xs))) : cellL S k = some (fl, xs) := by unfold cellL; rw [h]
theorem kMu2_append {k : Nat} {fl : Bool} {xs : List D} {d : D} (h : S[k]? = some (some (.lst fl xs))) (hp : Dv.plain d = true) (hl : xs.length < LINE) : kMu2 fAppend k [d] S = .ok .non (S.set k (some (.lst fl (xs ++ [Dv.cool d])))) := by
  unfold kMu2
  rw [cellL_of h]
  simp [fAppend, hp, hl, isNew]
/-! calls of builtins -/
@[simp] theorem cTuple_lst (f : Bool) (xs : List D) : cTuple S [.lst f xs] = some (.tup xs) := rfl
@[simp] theorem cTuple_tup (xs : List D) : cTuple S [.tup xs] = some (.tup xs) := rfl
@[simp] theorem cList_lst (f : Bool) (xs : List D) : cList S [.lst f xs] = some (.lst true xs) := rfl
@[simp] theorem cList_tup (xs : List D) : cList S [.tup xs] = some (.lst true xs) := rfl
@[simp] theorem cLen_lst (f : Bool) (xs : List D) : cLen S [.lst f xs] = some (.int xs.length) := rfl
@[simp] theorem cLen_tup (xs : List D) : cLen S [.tup xs] = some (.int xs.length) := rfl
@[simp] theorem cLen_rol (xs : List D) : cLen S [.rol xs] = some (.int xs.length) := rfl
theorem cSum_ints (f : Bool) (ns : List Int) : cSum S [.lst f (ns.map .int)] = some (.int ns.sum) := by simp [cSum, listArg, vw, lstOf, intsOf_map]
theorem cAll_bls (f : Bool) (bs : List Bool) : cAll S [.lst f (bs.map .bl)] = some (.bl (bs.all id)) := by simp [cAll, listArg, vw, lstOf, blsOf_map]
/-! a def -/
def nones (N : Nat) : Store := List.replicate N none
theorem nones_len (N : Nat) : (nones N).length = N := by simp [nones]
def dR (b : Nat) (x : Option D) (S' : Store) : Res D := match x with
  | some d' => .ok d' (S'.take b)
  | none => .bad
@[simp] theorem dR_some {b : Nat} (d : D) : dR b (some d) S = .ok d (S.take b) := rfl
def defR (b : Nat) (r : ResS) : Res D := match r with
  | .rt d S' => dR b (retD b d S') S'
  | .nx _ S' => .ok .non (S'.take b)
  | .exc c fs _ S' => .exc c fs (S'.take b)
  | _ => .bad
@[simp] theorem defR_rt {b : Nat} (d : D) (S' : Store) : defR b (.rt d S') = dR b (retD b d S') S' := rfl
@[simp] theorem defR_nx {b : Nat} (ρ : Rho) (S' : Store) : defR b (.nx ρ S') = .ok .non (S'.take b) := rfl
@[simp] theorem defR_exc {b c : Nat} (fs : List D) (ρ : Rho) (S' : Store) : defR b (.exc c fs ρ S') = .exc c fs (S'.take b) := rfl
theorem ev_def {N : Nat} {b : Nat → MS} {ds : List D} : mDef N b ds S = defR S.length (b S.length (ds.map some ++ List.replicate (N - ds.length) none) (S ++ nones N)) := by
  unfold mDef defR nones
  cases b S.length (ds.map some ++ List.replicate (N - ds.length) none) (S ++ List.replicate N none) with
  | rt d S' =>
    dsimp only
    unfold dR
    cases retD S.length d S' <;> rfl
  | _ => rfl
theorem rD_plain {b : Nat} {d : D} (h : Dv.plain d = true) : retD b d S = some d := by cases d <;> first | rfl | (cases h; done)
@[simp] theorem len_set_take {T : Store} {n : Nat} {x : Option D} : ((S.set n x) ++ T).take S.length = S.set n x := by
  have : S.length = (S.set n x).length := by simp
  rw [this, List.take_left]
theorem plain_cool {d : D} (h : Dv.plain d = true) : Dv.plain (Dv.cool d) = true := by cases d <;> first | rfl | (cases h; done)
theorem ao_plain {d : D} {ds : List D} (h : Dv.plain d = true) : Dv.argsOk (d :: ds) = Dv.argsOk ds := by cases d <;> first | rfl | (cases h; done)
theorem ca_plain {d : D} {ds : List D} (h : Dv.plain d = true) : Dv.coolA (d :: ds) = Dv.cool d :: Dv.coolA ds := by cases d <;> first | rfl | (cases h; done)
@[simp] theorem ev_yes : tYesM ρ S = .ok true S := rfl
@[simp] theorem rD_int {b : Nat} (i : Int) : retD b (.int i) S = some (.int i) := rfl
@[simp] theorem rD_bl {b : Nat} (i : Bool) : retD b (.bl i) S = some (.bl i) := rfl
@[simp] theorem rD_str {b : Nat} (i : Str) : retD b (.str i) S = some (.str i) := rfl
@[simp] theorem rD_non {b : Nat} : retD b .non S = some .non := rfl
@[simp] theorem rD_tup {b : Nat} (xs : List D) : retD b (.tup xs) S = some (.tup xs) := rfl
@[simp] theorem rD_lst {b : Nat} (f : Bool) (xs : List D) : retD b (.lst f xs) S = some (.lst f xs) := rfl
/-! operations -/
@[simp] theorem dII_int {h : Int → Int → Option D} (i j : Int) : dII h S (.int i) (.int j) = h i j := rfl
@[simp] theorem dGt_int (i j : Int) : dGt S (.int i) (.int j) = some (.bl (decide (j < i))) := rfl
@[simp] theorem dGe_int (i j : Int) : dGe S (.int i) (.int j) = some (.bl (decide (j ≤ i))) := rfl
@[simp] theorem dLt_int (i j : Int) : dLt S (.int i) (.int j) = some (.bl (decide (i < j))) := rfl
@[simp] theorem dLe_int (i j : Int) : dLe S (.int i) (.int j) = some (.bl (decide (i ≤ j))) := rfl
@[simp] theorem dSub_int (i j : Int) : dSub S (.int i) (.int j) = some (.int (i - j)) := rfl
@[simp] theorem dAdd_int (i j : Int) : dAdd S (.int i) (.int j) = some (.int (i + j)) := rfl
@[simp] theorem dMod_int (i j : Int) : dMod S (.int i) (.int j) = if 0 < j then some (.int (i % j)) else none := rfl
@[simp] theorem dDiv_int (i j : Int) : dDiv S (.int i) (.int j) = if 0 < j ∧ j.natAbs.log2 < 9000 then some (.int (i / j)) else none := rfl
@[simp] theorem dPow_int (i j : Int) : dPow S (.int i) (.int j) = if 0 ≤ j ∧ j ≤ 1000000 ∧ i.natAbs < 2 ^ 64 then some (.int (i ^ j.toNat)) else none := rfl
@[simp] theorem dShl_int (i j : Int) : dShl S (.int i) (.int j) = if 0 ≤ j ∧ j ≤ 1000000 ∧ i.natAbs < 2 ^ 64 then some (.int (i * 2 ^ j.toNat)) else none := rfl
@[simp] theorem dShr_int (i j : Int) : dShr S (.int i) (.int j) = if 0 ≤ j then some (.int (i / 2 ^ j.toNat)) else none := rfl
@[simp] theorem dAnd_int (i j : Int) : dAnd S (.int i) (.int j) = some (.int (Builtin.bitAnd i j)) := rfl
@[simp] theorem dOr_int (i j : Int) : dOr S (.int i) (.int j) = some (.int (Builtin.bitOr i j)) := rfl
theorem dMul_int {i j : Int} (h : i.natAbs.log2 + j.natAbs.log2 < 1000000) : dMul S (.int i) (.int j) = some (.int (i * j)) := by
  simp [dMul, dMulI, dII, vw, h]
@[simp] theorem dNeg_int (i : Int) : dNeg S (.int i) = some (.int (-i)) := rfl
@[simp] theorem cInt_int (i : Int) : cInt S [.int i] = some (.int i) := rfl
@[simp] theorem cInt_bl (b : Bool) : cInt S [.bl b] = some (.int (if b then 1 else 0)) := rfl
@[simp] theorem cAbs_int (i : Int) : cAbs S [.int i] = some (.int (if i < 0 then -i else i)) := rfl
@[simp] theorem cMax2_int (i j : Int) : cMax2 S [.int i, .int j] = some (.int (if j > i then j else i)) := rfl
@[simp] theorem cMin2_int (i j : Int) : cMin2 S [.int i, .int j] = some (.int (if j < i then j else i)) := rfl
@[simp] theorem isi_tup (xs : List D) (n : String) : cIsi S [.tup xs, .ty n] = if tyNames.contains n then some (.bl (isTy "tuple" n)) else none := rfl
@[simp] theorem isi_int (i : Int) (n : String) : cIsi S [.int i, .ty n] = if tyNames.contains n then some (.bl (isTy "int" n)) else none := rfl
@[simp] theorem isi_bl (i : Bool) (n : String) : cIsi S [.bl i, .ty n] = if tyNames.contains n then some (.bl (isTy "bool" n)) else none := rfl
@[simp] theorem isi_str (i : Str) (n : String) : cIsi S [.str i, .ty n] = if tyNames.contains n then some (.bl (isTy "str" n)) else none := rfl
@[simp] theorem isi_non (n : String) : cIsi S [.non, .ty n] = if tyNames.contains n then some (.bl (isTy "NoneType" n)) else none := rfl
@[simp] theorem isi_lst (f : Bool) (xs : List D) (n : String) : cIsi S [.lst f xs, .ty n] = if tyNames.contains n then some (.bl (isTy "list" n)) else none := rfl
@[simp] theorem isi_dct (f : Bool) (xs : List (D × D)) (n : String) : cIsi S [.dct f xs, .ty n] = if tyNames.contains n then some (.bl (isTy "dict" n)) else none := rfl
@[simp] theorem nw_ty (n : String) : isNew (.ty n) = false := rfl
@[simp] theorem ao_nil : argsOk [] = true := rfl
@[simp] theorem ao_int (i : Int) (ds : List D) : argsOk (.int i :: ds) = argsOk ds := rfl
@[simp] theorem ao_bl (i : Bool) (ds : List D) : argsOk (.bl i :: ds) = argsOk ds := rfl
@[simp] theorem ao_str (i : Str) (ds : List D) : argsOk (.str i :: ds) = argsOk ds := rfl
@[simp] theorem ao_non (ds : List D) : argsOk (.non :: ds) = argsOk ds := rfl
@[simp] theorem ao_tup (xs ds : List D) : argsOk (.tup xs :: ds) = argsOk ds := rfl
@[simp] theorem ao_lst (f : Bool) (xs ds : List D) : argsOk (.lst f xs :: ds) = argsOk ds := rfl
@[simp] theorem ao_rol (xs ds : List D) : argsOk (.rol xs :: ds) = argsOk ds := rfl
@[simp] theorem ao_dct (f : Bool) (xs : List (D × D)) (ds : List D) : argsOk (.dct f xs :: ds) = argsOk ds := rfl
@[simp] theorem ao_loc (n : Nat) (ds : List D) : argsOk (.loc n :: ds) = argsOk ds := rfl
@[simp] theorem ca_nil : coolA [] = [] := rfl
@[simp] theorem ca_int (i : Int) (ds : List D) : coolA (.int i :: ds) = .int i :: coolA ds := rfl
@[simp] theorem ca_bl (i : Bool) (ds : List D) : coolA (.bl i :: ds) = .bl i :: coolA ds := rfl
@[simp] theorem ca_str (i : Str) (ds : List D) : coolA (.str i :: ds) = .str i :: coolA ds := rfl
@[simp] theorem ca_non (ds : List D) : coolA (.non :: ds) = .non :: coolA ds := rfl
@[simp] theorem ca_tup (xs ds : List D) : coolA (.tup xs :: ds) = .tup xs :: coolA ds := rfl
@[simp] theorem ca_lst (f : Bool) (xs ds : List D) : coolA (.lst f xs :: ds) = .lst false xs :: coolA ds := rfl
@[simp] theorem ca_rol (xs ds : List D) : coolA (.rol xs :: ds) = .rol xs :: coolA ds := rfl
@[simp] theorem ca_dct (f : Bool) (xs : List (D × D)) (ds : List D) : coolA (.dct f xs :: ds) = .dct false xs :: coolA ds := rfl
@[simp] theorem ca_loc (n : Nat) (ds : List D) : coolA (.loc n :: ds) = .loc n :: coolA ds := rfl
@[simp] theorem co_int (i : Int) : Dv.cool (.int i) = .int i := rfl
@[simp] theorem co_bl (i : Bool) : Dv.cool (.bl i) = .bl i := rfl
@[simp] theorem co_str (i : Str) : Dv.cool (.str i) = .str i := rfl
@[simp] theorem co_non : Dv.cool .non = .non := rfl
@[simp] theorem co_tup (xs : List D) : Dv.cool (.tup xs) = .tup xs := rfl
@[simp] theorem co_lst (f : Bool) (xs : List D) : Dv.cool (.lst f xs) = .lst false xs := rfl
@[simp] theorem co_dct (f : Bool) (xs : List (D × D)) : Dv.cool (.dct f xs) = .dct false xs := rfl
@[simp] theorem co_rol (xs : List D) : Dv.cool (.rol xs) = .rol xs := rfl
@[simp] theorem pl_int (i : Int) : Dv.plain (.int i) = true := rfl
@[simp] theorem pl_bl (i : Bool) : Dv.plain (.bl i) = true := rfl
@[simp] theorem pl_str (i : Str) : Dv.plain (.str i) = true := rfl
@[simp] theorem pl_non : Dv.plain .non = true := rfl
@[simp] theorem pl_tup (xs : List D) : Dv.plain (.tup xs) = true := rfl
@[simp] theorem pl_lst (f : Bool) (xs : List D) : Dv.plain (.lst f xs) = true := rfl
@[simp] theorem pl_dct (f : Bool) (xs : List (D × D)) : Dv.plain (.dct f xs) = true := rfl
@[simp] theorem pl_rol (xs : List D) : Dv.plain (.rol xs) = true := rfl
@[simp] theorem pL_nil : plainL [] = true := rfl
@[simp] theorem pL_cons (d : D) (ds : List D) : plainL (d :: ds) = (Dv.plain d && plainL ds) := rfl
@[simp] theorem cL_nil : coolL [] = [] := rfl
@[simp] theorem cL_cons (d : D) (ds : List D) : coolL (d :: ds) = Dv.cool d :: coolL ds := rfl
theorem atI_nat {α : Type} (xs : List α) (i : Nat) (h : i < xs.length) : atI xs (i : Int) = xs[i]? := by
  simp [atI, ixN, h]
@[simp] theorem atI_0 {α : Type} (x : α) (xs : List α) : atI (x :: xs) 0 = some x := by simp [atI, ixN]
@[simp] theorem atI_1 {α : Type} (x y : α) (xs : List α) : atI (x :: y :: xs) 1 = some y := by
  have h : (1 : Int) < xs.length + 1 + 1 := by omega
  simp [atI, ixN, h]
@[simp] theorem ix_tup (xs : List D) (i : Int) : dIx' S (.tup xs) (.int i) = (atI xs i).map Dv.cool := rfl
@[simp] theorem ix_rol (xs : List D) (i : Int) : dIx' S (.rol xs) (.int i) = (atI xs i).map Dv.cool := rfl
theorem cool_cool (d : D) : Dv.cool (Dv.cool d) = Dv.cool d := by cases d <;> rfl
@[simp] theorem ix_lst (f : Bool) (xs : List D) (i : Int) : dIx' S (.lst f xs) (.int i) = (atI xs i).map Dv.cool := by
  simp only [dIx', dIx, vw]
  rw [Option.map_map]
  congr 1
  funext d
  exact cool_cool d
theorem ix_loc {n : Nat} {f : Bool} {xs : List D} (h : S[n]? = some (some (.lst f xs))) (i : Int) : dIx' S (.loc n) (.int i) = (atI xs i).map Dv.cool := by
  simp only [dIx', dIx, vw, h]
  simp only [Option.join_some, Option.getD_some]
  rw [Option.map_map]
  congr 1
  funext d
  exact cool_cool d
@[simp] theorem tru_bl (b : Bool) : truD S (.bl b) = some b := rfl
@[simp] theorem tru_int (i : Int) : truD S (.int i) = some (i != 0) := rfl
@[simp] theorem tru_tup (xs : List D) : truD S (.tup xs) = some (!xs.isEmpty) := rfl
@[simp] theorem vwv_int (i : Int) : vw S (.int i) = .int i := rfl
@[simp] theorem vwv_bl (i : Bool) : vw S (.bl i) = .bl i := rfl
@[simp] theorem vwv_str (i : Str) : vw S (.str i) = .str i := rfl
@[simp] theorem vwv_non : vw S .non = .non := rfl
@[simp] theorem vwv_tup (xs : List D) : vw S (.tup xs) = .tup xs := rfl
@[simp] theorem vwv_lst (f : Bool) (xs : List D) : vw S (.lst f xs) = .lst f xs := rfl
@[simp] theorem vwv_rol (xs : List D) : vw S (.rol xs) = .rol xs := rfl
@[simp] theorem vwv_dct (f : Bool) (xs : List (D × D)) : vw S (.dct f xs) = .dct f xs := rfl
@[simp] theorem nw_int (i : Int) : isNew (.int i) = false := rfl
@[simp] theorem nw_bl (i : Bool) : isNew (.bl i) = false := rfl
@[simp] theorem nw_str (i : Str) : isNew (.str i) = false := rfl
@[simp] theorem nw_non : isNew .non = false := rfl
@[simp] theorem nw_tup (xs : List D) : isNew (.tup xs) = false := rfl
@[simp] theorem nw_lst (f : Bool) (xs : List D) : isNew (.lst f xs) = f := by cases f <;> rfl
@[simp] theorem nw_dct (f : Bool) (xs : List (D × D)) : isNew (.dct f xs) = f := by cases f <;> rfl
@[simp] theorem nw_loc (n : Nat) : isNew (.loc n) = false := rfl
@[simp] theorem nw_rol (xs : List D) : isNew (.rol xs) = false := rfl
end
end Dv

set_option maxHeartbeats 4000000
namespace Dv
open PySem PySem.Spec PyProof.Rows L2
set_option autoImplicit false
/-! ### stays and crowds, plain -/
abbrev Stay := Int × Int
def crd (h : Int) : Int → List Stay → List Int
  | _, [] => []
  | i, v :: vs => if v.1 ≤ h ∧ h ≤ v.2 then i :: crd h (i + 1) vs else crd h (i + 1) vs
abbrev crowdZ (vs : List Stay) (h : Int) : List Int := crd h 0 vs
theorem mem_crd {h p : Int} : ∀ {vs : List Stay} {i : Int}, p ∈ crd h i vs ↔ ∃ (k : Nat) (v : Stay), vs[k]? = some v ∧ p = i + k ∧ v.1 ≤ h ∧ h ≤ v.2
  | [], i => by simp [crd]
  | v :: vs, i => by
    have ih := mem_crd (h := h) (p := p) (vs := vs) (i := i + 1)
    have e : (∃ (k : Nat) (w : Stay), (v :: vs)[k]? = some w ∧ p = i + k ∧ w.1 ≤ h ∧ h ≤ w.2) ↔ (p = i ∧ v.1 ≤ h ∧ h ≤ v.2) ∨ ∃ (k : Nat) (w : Stay), vs[k]? = some w ∧ p = i + 1 + k ∧ w.1 ≤ h ∧ h ≤ w.2 := by
      constructor
      · rintro ⟨k, w, h1, h2, h3⟩
        cases k with
        | zero => simp at h1; subst h1; exact .inl ⟨by simpa using h2, h3⟩
        | succ k => exact .inr ⟨k, w, by simpa using h1, by omega, h3⟩
      · rintro (⟨h1, h2⟩ | ⟨k, w, h1, h2, h3⟩)
        · exact ⟨0, v, rfl, by simpa using h1, h2⟩
        · exact ⟨k + 1, w, by simpa using h1, by omega, h3⟩
    rw [e, ← ih]
    rw [crd]
    split
    · rename_i c; simp [c]
    · rename_i c
      constructor
      · intro h; exact .inr h
      · rintro (⟨_, h⟩ | h)
        · exact absurd h c
        · exact h
theorem crd_lo {h p : Int} {vs : List Stay} {i : Int} (hp : p ∈ crd h i vs) : i ≤ p ∧ p < i + vs.length := by
  obtain ⟨k, v, h1, h2, _⟩ := mem_crd.mp hp
  have := (List.getElem?_eq_some_iff.mp h1).1
  omega
theorem crd_pw {h : Int} : ∀ {vs : List Stay} {i : Int}, (crd h i vs).Pairwise (· < ·)
  | [], _ => List.Pairwise.nil
  | v :: vs, i => by
    unfold crd
    split
    · exact List.pairwise_cons.mpr ⟨fun y hy => by have := (crd_lo hy).1; omega, crd_pw⟩
    · exact crd_pw
theorem crd_len {h : Int} : ∀ {vs : List Stay} {i : Int}, (crd h i vs).length ≤ vs.length
  | [], _ => Nat.le_refl _
  | v :: vs, i => by
    have := crd_len (h := h) (vs := vs) (i := i + 1)
    unfold crd
    split <;> simp <;> omega
/-- who is there -/
def At' (vs : List Stay) (h : Int) (k : Nat) : Prop := ∃ v, vs[k]? = some v ∧ v.1 ≤ h ∧ h ≤ v.2
theorem mem_crowd {vs : List Stay} {h : Int} {k : Nat} : (k : Int) ∈ crowdZ vs h ↔ At' vs h k := by
  rw [mem_crd]
  constructor
  · rintro ⟨j, v, h1, h2, h3⟩
    have : j = k := by omega
    subst this
    exact ⟨v, h1, h3⟩
  · rintro ⟨v, h1, h2⟩
    exact ⟨k, v, h1, by omega, h2⟩
theorem crowd_nat {vs : List Stay} {h p : Int} (hp : p ∈ crowdZ vs h) : ∃ k : Nat, p = k ∧ At' vs h k := by
  obtain ⟨j, v, h1, h2, h3⟩ := mem_crd.mp hp
  exact ⟨j, by omega, v, h1, h3⟩
theorem asc_sub_len : ∀ {ys xs : List Int}, xs.Pairwise (· < ·) → ys.Pairwise (· < ·) → (∀ x ∈ xs, x ∈ ys) → xs.length ≤ ys.length ∧ (ys.length ≤ xs.length → xs = ys)
  | ys, [], _, _, _ => ⟨by simp, fun h => (List.eq_nil_of_length_eq_zero (by simpa using h)).symm⟩
  | [], x :: xs, _, _, h => by have := h x (by simp); simp at this
  | y :: ys, x :: xs, h1, h2, h => by
    have q1 := List.pairwise_cons.mp h1
    have q2 := List.pairwise_cons.mp h2
    by_cases e : x = y
    · subst e
      have := asc_sub_len (ys := ys) (xs := xs) q1.2 q2.2 fun z hz => by
        rcases List.mem_cons.mp (h z (List.mem_cons_of_mem _ hz)) with r | r
        · have := q1.1 z hz; omega
        · exact r
      refine ⟨by simp; exact this.1, fun hl => by rw [this.2 (by simpa using hl)]⟩
    · have hx : x ∈ ys := (List.mem_cons.mp (h x (by simp))).resolve_left e
      have := asc_sub_len (ys := ys) (xs := x :: xs) h1 q2.2 fun z hz => by
        rcases List.mem_cons.mp (h z hz) with r | r
        · have a := q2.1 x hx
          rcases List.mem_cons.mp hz with b | b
          · omega
          · have := q1.1 z b; omega
        · exact r
      exact ⟨by simp at this ⊢; omega, fun hl => by simp at this hl; omega⟩
/-- ascending lots: a part that is not shorter is the same -/
theorem asc_sub_eq {xs ys : List Int} (h1 : xs.Pairwise (· < ·)) (h2 : ys.Pairwise (· < ·)) (hs : ∀ x ∈ xs, x ∈ ys) (hl : ys.length ≤ xs.length) : xs = ys := (asc_sub_len h1 h2 hs).2 hl
theorem asc_sub_lt {xs ys : List Int} (h1 : xs.Pairwise (· < ·)) (h2 : ys.Pairwise (· < ·)) (hs : ∀ x ∈ xs, x ∈ ys) {z : Int} (hz : z ∈ ys) (hn : z ∉ xs) : xs.length < ys.length := by
  rcases Nat.lt_or_ge xs.length ys.length with h | h
  · exact h
  · exact absurd (asc_sub_eq h1 h2 hs h ▸ hz) hn
theorem crowd_eq {vs : List Stay} {h g : Int} (e : ∀ k, At' vs h k ↔ At' vs g k) : crowdZ vs h = crowdZ vs g := asc_eq crd_pw crd_pw fun p => by
  constructor
  · intro hp
    obtain ⟨k, rfl, ha⟩ := crowd_nat hp
    exact mem_crowd.mpr ((e k).mp ha)
  · intro hp
    obtain ⟨k, rfl, ha⟩ := crowd_nat hp
    exact mem_crowd.mpr ((e k).mpr ha)
/-! the greatest crowds -/
/-- the stays are right -/
def Stays (most : Int) (vs : List Stay) : Prop := ∀ v ∈ vs, 0 ≤ v.1 ∧ v.1 ≤ v.2 ∧ v.2 < most
def comings (vs : List Stay) : List Int := usort (vs.map (·.1))
theorem mem_comings {vs : List Stay} {h : Int} : h ∈ comings vs ↔ ∃ (k : Nat) (v : Stay), vs[k]? = some v ∧ v.1 = h := by
  unfold comings
  rw [mem_usort, List.mem_map]
  constructor
  · rintro ⟨v, hv, rfl⟩
    obtain ⟨k, hk⟩ := List.getElem?_of_mem hv
    exact ⟨k, v, hk, rfl⟩
  · rintro ⟨k, v, hk, rfl⟩
    exact ⟨v, List.mem_of_getElem? hk, rfl⟩
/-- somebody leaves ahead of an hour -/
def leaves (vs : List Stay) (h g : Int) : Prop := ∃ v ∈ vs, h ≤ v.2 ∧ v.2 < g
instance (vs : List Stay) (h g : Int) : Decidable (leaves vs h g) := by unfold leaves; infer_instance
/-- the hours of the greatest crowds -/
def good (vs : List Stay) : List Int → List Int
  | [] => []
  | [h] => [h]
  | h :: g :: r => if leaves vs h g then h :: good vs (g :: r) else good vs (g :: r)
theorem good_sub {vs : List Stay} : ∀ {cs : List Int}, ∀ h ∈ good vs cs, h ∈ cs
  | [], h, hh => by simp [good] at hh
  | [c], h, hh => by simpa [good] using hh
  | c :: g :: r, h, hh => by
    simp only [good] at hh
    split at hh
    · rcases List.mem_cons.mp hh with e | hh
      · simp [e]
      · exact List.mem_cons_of_mem _ (good_sub h hh)
    · exact List.mem_cons_of_mem _ (good_sub h hh)
theorem good_pw {vs : List Stay} : ∀ {cs : List Int}, cs.Pairwise (· < ·) → (good vs cs).Pairwise (· < ·)
  | [], _ => by simp [good]
  | [c], _ => by simp [good]
  | c :: g :: r, hp => by
    have q := List.pairwise_cons.mp hp
    simp only [good]
    split
    · exact List.pairwise_cons.mpr ⟨fun y hy => q.1 y (good_sub y hy), good_pw q.2⟩
    · exact good_pw q.2
theorem good_len {vs : List Stay} : ∀ {cs : List Int}, (good vs cs).length ≤ cs.length
  | [] => Nat.le_refl _
  | [c] => Nat.le_refl _
  | c :: g :: r => by
    have := good_len (vs := vs) (cs := g :: r)
    simp only [good]
    split <;> simp at this ⊢ <;> omega
/-- h is good: nobody comes anew before somebody left -/
def Next (cs : List Int) (h g : Int) : Prop := g ∈ cs ∧ h < g ∧ ∀ c ∈ cs, h < c → g ≤ c
theorem good_iff {vs : List Stay} : ∀ {cs : List Int}, cs.Pairwise (· < ·) → ∀ h, h ∈ good vs cs ↔ h ∈ cs ∧ ∀ g, Next cs h g → leaves vs h g
  | [], _, h => by simp [good]
  | [c], _, h => by
    simp only [good, List.mem_singleton]
    constructor
    · rintro rfl
      exact ⟨rfl, fun g n => by have := n.1; simp at this; have := n.2.1; omega⟩
    · exact fun h => h.1
  | c :: g :: r, hp, h => by
    have q := List.pairwise_cons.mp hp
    have q2 := List.pairwise_cons.mp q.2
    have ih := good_iff (vs := vs) (cs := g :: r) q.2
    have hcg : c < g := q.1 g (by simp)
    have nx : Next (c :: g :: r) c g := ⟨by simp, hcg, fun d hd hl => by
      rcases List.mem_cons.mp hd with e | hd
      · omega
      · rcases List.mem_cons.mp hd with e | hd
        · omega
        · have := q2.1 d hd; omega⟩
    have nu : ∀ g', Next (c :: g :: r) c g' → g' = g := fun g' n => by
      have a := n.2.2 g (by simp) hcg
      have b := nx.2.2 g' n.1 n.2.1
      omega
    have nt : ∀ h ∈ g :: r, ∀ g', Next (c :: g :: r) h g' ↔ Next (g :: r) h g' := fun h hh g' => by
      have hc := q.1 h hh
      constructor
      · rintro ⟨a, b, d⟩
        refine ⟨?_, b, fun x hx => d x (List.mem_cons_of_mem _ hx)⟩
        rcases List.mem_cons.mp a with e | a
        · omega
        · exact a
      · rintro ⟨a, b, d⟩
        refine ⟨List.mem_cons_of_mem _ a, b, fun x hx hl => ?_⟩
        rcases List.mem_cons.mp hx with e | hx
        · omega
        · exact d x hx hl
    have tail : h ∈ good vs (g :: r) ↔ (h ∈ g :: r ∧ ∀ g', Next (c :: g :: r) h g' → leaves vs h g') := by
      rw [ih h]
      constructor
      · rintro ⟨a, b⟩
        exact ⟨a, fun g' n => b g' ((nt h a g').mp n)⟩
      · rintro ⟨a, b⟩
        exact ⟨a, fun g' n => b g' ((nt h a g').mpr n)⟩
    simp only [good]
    split
    · rename_i hl
      rw [List.mem_cons, tail, List.mem_cons (l := g :: r)]
      constructor
      · rintro (e | ⟨a, b⟩)
        · subst e
          exact ⟨.inl rfl, fun g' n => by rw [nu g' n]; exact hl⟩
        · exact ⟨.inr a, b⟩
      · rintro ⟨e | a, b⟩
        · exact .inl e
        · exact .inr ⟨a, b⟩
    · rename_i hl
      rw [tail, List.mem_cons (l := g :: r)]
      constructor
      · rintro ⟨a, b⟩
        exact ⟨.inr a, b⟩
      · rintro ⟨e | a, b⟩
        · subst e; exact absurd (b g nx) hl
        · exact ⟨a, b⟩
end Dv

set_option maxHeartbeats 4000000
namespace Dv
open PySem PySem.Spec PyProof.Rows L2
set_option autoImplicit false
theorem next_ex {h : Int} : ∀ {cs : List Int}, cs.Pairwise (· < ·) → (∃ c ∈ cs, h < c) → ∃ g, Next cs h g
  | [], _, ⟨c, hc, _⟩ => by simp at hc
  | c :: cs, hp, ⟨d, hd, hl⟩ => by
    have q := List.pairwise_cons.mp hp
    by_cases hc : h < c
    · exact ⟨c, by simp, hc, fun x hx _ => by
        rcases List.mem_cons.mp hx with e | hx
        · omega
        · have := q.1 x hx; omega⟩
    · have hd' : d ∈ cs := by
        rcases List.mem_cons.mp hd with e | hd
        · omega
        · exact hd
      obtain ⟨g, g1, g2, g3⟩ := next_ex (h := h) q.2 ⟨d, hd', hl⟩
      exact ⟨g, List.mem_cons_of_mem _ g1, g2, fun x hx hh => by
        rcases List.mem_cons.mp hx with e | hx
        · omega
        · exact g3 x hx hh⟩
theorem prev_ex {g : Int} : ∀ {cs : List Int}, (∃ c ∈ cs, c ≤ g) → ∃ h ∈ cs, h ≤ g ∧ ∀ c ∈ cs, c ≤ g → c ≤ h
  | [], ⟨c, hc, _⟩ => by simp at hc
  | c :: cs, ⟨d, hd, hl⟩ => by
    by_cases hx : ∃ d ∈ cs, d ≤ g
    · obtain ⟨h, h1, h2, h3⟩ := prev_ex hx
      by_cases hc : c ≤ g ∧ h < c
      · exact ⟨c, by simp, hc.1, fun x hx hh => by
          rcases List.mem_cons.mp hx with e | hx
          · omega
          · have := h3 x hx hh; omega⟩
      · exact ⟨h, List.mem_cons_of_mem _ h1, h2, fun x hx hh => by
          rcases List.mem_cons.mp hx with e | hx
          · omega
          · exact h3 x hx hh⟩
    · have hd' : d = c := by
        rcases List.mem_cons.mp hd with e | hd
        · exact e
        · exact absurd ⟨d, hd, hl⟩ hx
      subst hd'
      exact ⟨d, by simp, hl, fun x hx' hh => by
        rcases List.mem_cons.mp hx' with e | hx'
        · omega
        · exact absurd ⟨x, hx', hh⟩ hx⟩
/-- lo, lo + 1, .. -/
def intR (lo : Int) : Nat → List Int
  | 0 => []
  | n + 1 => lo :: intR (lo + 1) n
theorem mem_intR {x : Int} : ∀ {n : Nat} {lo : Int}, x ∈ intR lo n ↔ lo ≤ x ∧ x < lo + n
  | 0, lo => by simp [intR]
  | n + 1, lo => by
    rw [intR, List.mem_cons, mem_intR]
    omega
theorem intR_pw : ∀ {n : Nat} {lo : Int}, (intR lo n).Pairwise (· < ·)
  | 0, _ => List.Pairwise.nil
  | n + 1, lo => List.pairwise_cons.mpr ⟨fun y hy => by have := mem_intR.mp hy; omega, intR_pw⟩
theorem intR_len : ∀ {n : Nat} {lo : Int}, (intR lo n).length = n
  | 0, _ => rfl
  | n + 1, _ => by simp [intR, intR_len]
theorem rngD_int : ∀ (n : Nat) (lo : Int), rngD lo n = (intR lo n).map D.int
  | 0, _ => rfl
  | n + 1, lo => by simp [rngD, intR, rngD_int n]
theorem intR_get : ∀ {n : Nat} {lo : Int} {i : Nat}, i < n → (intR lo n)[i]? = some (lo + i)
  | n + 1, lo, 0, _ => by simp [intR]
  | n + 1, lo, i + 1, h => by
    rw [intR, List.getElem?_cons_succ, intR_get (by omega)]
    congr 1
    omega
/-- all crowds, hour by hour -/
def every (vs : List Stay) (n : Nat) : List (List Int) := (intR 0 n).map (crowdZ vs)
/-- a greatest one -/
def Best (ev : List (List Int)) (x : List Int) : Prop := x ∈ ev ∧ x ≠ [] ∧ ¬ ∃ y ∈ ev, x.length < y.length ∧ ∀ p ∈ x, p ∈ y
theorem mem_every {vs : List Stay} {n : Nat} {x : List Int} : x ∈ every vs n ↔ ∃ h : Int, 0 ≤ h ∧ h < (n : Int) ∧ x = crowdZ vs h := by
  unfold every
  rw [List.mem_map]
  constructor
  · rintro ⟨h, hh, rfl⟩
    have := mem_intR.mp hh
    exact ⟨h, this.1, by omega, rfl⟩
  · rintro ⟨h, h1, h2, rfl⟩
    exact ⟨h, mem_intR.mpr ⟨h1, by omega⟩, rfl⟩
theorem stay_at {vs : List Stay} {k : Nat} {v : Stay} {most : Int} (hs : Stays most vs) (hk : vs[k]? = some v) : 0 ≤ v.1 ∧ v.1 ≤ v.2 ∧ v.2 < most ∧ v.1 ∈ comings vs ∧ At' vs v.1 k := by
  have := hs v (List.mem_of_getElem? hk)
  exact ⟨this.1, this.2.1, this.2.2, mem_comings.mpr ⟨k, v, hk, rfl⟩, v, hk, Int.le_refl _, this.2.1⟩
theorem crowd_sub {vs : List Stay} {h g : Int} (e : ∀ k, At' vs h k → At' vs g k) : ∀ p ∈ crowdZ vs h, p ∈ crowdZ vs g := fun p hp => by
  obtain ⟨k, rfl, a⟩ := crowd_nat hp
  exact mem_crowd.mpr (e k a)
theorem best_iff {vs : List Stay} {n : Nat} {most : Int} (hn : most ≤ n) (hs : Stays most vs) {x : List Int} : x ∈ (good vs (comings vs)).map (crowdZ vs) ↔ Best (every vs n) x := by
  rw [List.mem_map]
  constructor
  · rintro ⟨h, hg, rfl⟩
    obtain ⟨hc, hl⟩ := (good_iff (pw_usort _) h).mp hg
    obtain ⟨k, v, hk, rfl⟩ := mem_comings.mp hc
    obtain ⟨s1, s2, s3, _, s5⟩ := stay_at hs hk
    refine ⟨mem_every.mpr ⟨v.1, s1, by omega, rfl⟩, fun e => ?_, ?_⟩
    · have := mem_crowd.mpr s5; rw [e] at this; simp at this
    · rintro ⟨y, hy, hlen, hsub⟩
      obtain ⟨g, g0, g1, rfl⟩ := mem_every.mp hy
      have back : ∀ j, At' vs v.1 j → At' vs g j := fun j hj => mem_crowd.mp (hsub j (mem_crowd.mpr hj))
      have hvg : v.1 ≤ g := by
        obtain ⟨v', e, a, _⟩ := back k s5
        rw [hk] at e; cases e; exact a
      have : ∀ j, At' vs g j → At' vs v.1 j := by
        rintro j ⟨w, hw, w1, w2⟩
        refine ⟨w, hw, ?_, by omega⟩
        rcases Int.lt_or_le v.1 w.1 with c | c
        · exfalso
          obtain ⟨g', nx⟩ := next_ex (pw_usort _) ⟨w.1, (stay_at hs hw).2.2.2.1, c⟩
          obtain ⟨u, hu, u1, u2⟩ := hl g' nx
          have hgw := nx.2.2 w.1 (stay_at hs hw).2.2.2.1 c
          obtain ⟨i, hi⟩ := List.getElem?_of_mem hu
          obtain ⟨t1, t2, t3, t4, t5⟩ := stay_at hs hi
          have hu1 : u.1 ≤ v.1 := by
            rcases Int.lt_or_le v.1 u.1 with c' | c'
            · have := nx.2.2 u.1 t4 c'; omega
            · exact c'
          obtain ⟨u', e, _, b⟩ := back i ⟨u, hi, hu1, u1⟩
          rw [hi] at e; cases e
          omega
        · exact c
      have hq := asc_sub_len (crd_pw (h := g) (vs := vs) (i := 0)) (crd_pw (h := v.1) (vs := vs) (i := 0)) (crowd_sub this)
      have := hq.1
      unfold crowdZ at hlen
      omega
  · rintro ⟨hx, hne, hb⟩
    obtain ⟨g, g0, g1, rfl⟩ := mem_every.mp hx
    obtain ⟨p, hp⟩ := List.exists_mem_of_ne_nil _ hne
    obtain ⟨k, rfl, w, hw, w1, w2⟩ := crowd_nat hp
    obtain ⟨h, h1, h2, h3⟩ := prev_ex (cs := comings vs) (g := g) ⟨w.1, (stay_at hs hw).2.2.2.1, w1⟩
    obtain ⟨k0, v, hk, rfl⟩ := mem_comings.mp h1
    obtain ⟨s1, s2, s3, _, s5⟩ := stay_at hs hk
    have sub : ∀ j, At' vs g j → At' vs v.1 j := by
      rintro j ⟨u, hu, u1, u2⟩
      exact ⟨u, hu, h3 u.1 (stay_at hs hu).2.2.2.1 u1, by omega⟩
    have he : crowdZ vs g = crowdZ vs v.1 := by
      refine asc_sub_eq crd_pw crd_pw (crowd_sub sub) ?_
      rcases Nat.lt_or_ge (crowdZ vs g).length (crowdZ vs v.1).length with c | c
      · exact absurd ⟨_, mem_every.mpr ⟨v.1, s1, by omega, rfl⟩, c, crowd_sub sub⟩ hb
      · exact c
    refine ⟨v.1, (good_iff (pw_usort _) v.1).mpr ⟨h1, fun g' nx => ?_⟩, he.symm⟩
    rcases Decidable.em (leaves vs v.1 g') with c | c
    · exact c
    · exfalso
      have hno : ∀ u ∈ vs, v.1 ≤ u.2 → g' ≤ u.2 := fun u hu hl => by
        rcases Int.lt_or_le u.2 g' with c' | c'
        · exact absurd ⟨u, hu, hl, c'⟩ c
        · exact c'
      obtain ⟨k', v', hk', e'⟩ := mem_comings.mp nx.1
      obtain ⟨t1, t2, t3, t4, t5⟩ := stay_at hs hk'
      rw [e'] at t1 t2 t5
      have sub2 : ∀ j, At' vs v.1 j → At' vs g' j := by
        rintro j ⟨u, hu, u1, u2⟩
        have := nx.2.1
        exact ⟨u, hu, by omega, hno u (List.mem_of_getElem? hu) u2⟩
      refine hb ⟨crowdZ vs g', mem_every.mpr ⟨g', t1, by omega, rfl⟩, ?_, ?_⟩
      · rw [he]
        refine asc_sub_lt crd_pw crd_pw (crowd_sub sub2) (mem_crowd.mpr t5) fun z => ?_
        obtain ⟨u, hu, u1, _⟩ := mem_crowd.mp z
        rw [hk'] at hu; cases hu
        have := nx.2.1
        omega
      · rw [he]; exact crowd_sub sub2
theorem crowds_nodup {vs : List Stay} {most : Int} (hs : Stays most vs) : ((good vs (comings vs)).map (crowdZ vs)).Nodup := by
  have hp := good_pw (vs := vs) (pw_usort (vs.map (·.1)))
  have : (good vs (comings vs)).Pairwise fun a b => a < b ∧ b ∈ comings vs := List.Pairwise.imp_of_mem (fun {a b} ha hb h => ⟨h, good_sub b hb⟩) hp
  rw [List.Nodup, List.pairwise_map]
  refine this.imp fun {a b} h e => ?_
  obtain ⟨k, v, hk, rfl⟩ := mem_comings.mp h.2
  have a1 := mem_crowd.mpr (stay_at hs hk).2.2.2.2
  rw [← e] at a1
  obtain ⟨u, hu, u1, _⟩ := mem_crowd.mp a1
  rw [hk] at hu; cases hu
  have := h.1
  omega
theorem comings_len {vs : List Stay} : (comings vs).length ≤ vs.length := by
  have : ∀ {k : Int} {xs : List Int}, (uins k xs).length ≤ xs.length + 1 := by
    intro k xs
    induction xs with
    | nil => simp [uins]
    | cons x xs ih => unfold uins; split; · simp
                      · split <;> simp <;> omega
  have h2 : ∀ xs : List Int, (usort xs).length ≤ xs.length := by
    intro xs
    induction xs with
    | nil => simp [usort]
    | cons x xs ih => have := this (k := x) (xs := usort xs); simp [usort] at this ⊢; omega
  have := h2 (vs.map (·.1))
  rw [List.length_map] at this
  exact this
end Dv

set_option maxHeartbeats 4000000
namespace Dv
open PySem PySem.Spec PyProof.Rows L2
set_option autoImplicit false
/-! ### the order of tuples of ints -/
theorem pyD_tI (a : List Int) : pyD (tI a) = .tuple (a.map .int) := by simp [pyD, toPy_tI]
theorem dataLt_tI (a b : List Int) : PySem.W.dataLt (pyD (tI a)) (pyD (tI b)) = decide (a < b) := by
  rw [pyD_tI, pyD_tI, PySem.W.dataLt_tuple]
  exact PySem.W.dataLt_ints a b
theorem leD_tI (a b : List Int) : leD (tI a) (tI b) = decide (a ≤ b) := by
  show (!PySem.W.dataLt (pyD (tI b)) (pyD (tI a))) = _
  rw [dataLt_tI]
  by_cases h : b < a
  · have : ¬ a ≤ b := fun z => z h
    simp [h, this]
  · have : a ≤ b := h
    simp [h, this]
def leL (a b : List Int) : Bool := decide (a ≤ b)
def sortL (xs : List (List Int)) : List (List Int) := xs.mergeSort leL
theorem leL_total (a b : List Int) : leL a b || leL b a := by
  simp only [leL, Bool.or_eq_true, decide_eq_true_eq]
  exact List.le_total a b
theorem leL_trans (a b c : List Int) (h1 : leL a b) (h2 : leL b c) : leL a c := by
  simp only [leL, decide_eq_true_eq] at *
  exact List.le_trans h1 h2
theorem leL_anti {a b : List Int} (h1 : leL a b) (h2 : leL b a) : a = b := by
  simp only [leL, decide_eq_true_eq] at *
  exact List.le_antisymm h1 h2
theorem sorted_eq : ∀ {xs ys : List (List Int)}, xs.Pairwise (leL · ·) → ys.Pairwise (leL · ·) → xs.Perm ys → xs = ys
  | [], ys, _, _, h => h.nil_eq
  | x :: xs, [], _, _, h => by have := h.length_eq; simp at this
  | x :: xs, y :: ys, h1, h2, h => by
    have q1 := List.pairwise_cons.mp h1
    have q2 := List.pairwise_cons.mp h2
    have e : x = y := by
      have a := h.mem_iff.mp (List.mem_cons_self (a := x))
      have b := h.mem_iff.mpr (List.mem_cons_self (a := y))
      rcases List.mem_cons.mp a with a | a
      · exact a
      · rcases List.mem_cons.mp b with b | b
        · exact b.symm
        · exact leL_anti (q1.1 y b) (q2.1 x a)
    subst e
    exact congrArg _ (sorted_eq q1.2 q2.2 (List.Perm.cons_inv h))
theorem sortL_pw (xs : List (List Int)) : (sortL xs).Pairwise (leL · ·) := List.pairwise_mergeSort leL_trans leL_total xs
theorem sortL_perm (xs : List (List Int)) : (sortL xs).Perm xs := List.mergeSort_perm xs leL
theorem sortL_eq {xs ys : List (List Int)} (h : xs.Perm ys) : sortL xs = sortL ys := sorted_eq (sortL_pw xs) (sortL_pw ys) (((sortL_perm xs).trans h).trans (sortL_perm ys).symm)
theorem nodup_perm {α : Type} [DecidableEq α] {xs ys : List α} (h1 : xs.Nodup) (h2 : ys.Nodup) (h : ∀ x, x ∈ xs ↔ x ∈ ys) : xs.Perm ys := (List.perm_ext_iff_of_nodup h1 h2).mpr h
theorem sortL_head {xs : List (List Int)} {m : List Int} (hm : m ∈ xs) (h : ∀ y ∈ xs, m ≤ y) : ∃ t, sortL xs = m :: t := by
  have pw := sortL_pw xs
  have pm := sortL_perm xs
  cases e : sortL xs with
  | nil => rw [e] at pm; have := pm.mem_iff.mpr hm; simp at this
  | cons a t =>
    rw [e] at pw pm
    have q := List.pairwise_cons.mp pw
    have ha : a ∈ xs := pm.mem_iff.mp List.mem_cons_self
    have : a = m := by
      rcases List.mem_cons.mp (pm.mem_iff.mpr hm) with z | z
      · exact z.symm
      · exact leL_anti (q.1 m z) (by simpa [leL] using h a ha)
    subst this
    exact ⟨t, rfl⟩
theorem pair_le {a b c d : Int} (h : a < c ∨ (a = c ∧ b ≤ d)) : [a, b] ≤ [c, d] := by
  intro z
  have z' : PySem.W.dataLt (pyD (tI [c, d])) (pyD (tI [a, b])) = true := by rw [dataLt_tI]; simpa using z
  rw [pyD_tI, pyD_tI] at z'
  have z2 := (PySem.W.dataLt_ii c d a b).symm.trans z'
  simp only [decide_eq_true_eq] at z2
  omega
/-! sorting, of tuples of ints -/
theorem alikeAll_ints : ∀ a b : List Int, PySem.W.alikeAll (a.map .int) (b.map .int) = true := PySem.W.alike_ints
theorem alike_tI (a b : List Int) : PySem.W.alike (pyD (tI a)) (pyD (tI b)) = true := by
  rw [pyD_tI, pyD_tI, PySem.W.alike]
  exact alikeAll_ints a b
theorem sortOk_tI {xs : List (List Int)} (h : ∀ x ∈ xs, x ≠ []) : SortOk (xs.map fun x => tI x) := by
  refine ⟨fun d hd => ?_, fun d hd e he => ?_, .inl fun d hd => ?_, fun d hd => ?_⟩
  · obtain ⟨x, _, rfl⟩ := List.mem_map.mp hd
    rw [toPy_tI]; rfl
  · simp only [List.map_map, List.mem_map] at hd he
    obtain ⟨x, _, rfl⟩ := hd
    obtain ⟨y, _, rfl⟩ := he
    exact alike_tI x y
  · simp only [List.map_map, List.mem_map] at hd
    obtain ⟨x, hx, rfl⟩ := hd
    have := h x hx
    cases x with
    | nil => exact absurd rfl this
    | cons a r => exact ⟨.int a, r.map .int, pyD_tI _⟩
  · obtain ⟨x, _, rfl⟩ := List.mem_map.mp hd
    rw [pyD_tI]
    refine ⟨shaped_tI x, ?_⟩
    simp [PyData.depth, depth_ints]
theorem sort_map (xs : List (List Int)) : (xs.map fun x => tI x).mergeSort leD = (sortL xs).map fun x => tI x := by
  rw [sortL, List.map_mergeSort (s := leD) (f := fun x => tI x)]
  intro a _ b _
  rw [leD_tI]
  rfl
theorem cSort_tI {S : Store} {d : D} {f : Bool} {xs : List (List Int)} (hv : vw S d = .lst f (xs.map fun x => tI x)) (h : ∀ x ∈ xs, x ≠ []) : cSort S [d] = some (.lst true ((sortL xs).map fun x => tI x)) := by
  have ha : listArg S [d] = some (xs.map fun x => tI x) := by simp [listArg, hv, lstOf]
  unfold cSort byInts
  rw [ha]
  cases xs with
  | nil => simp [intsOf, cSortI, ha, sortL, osort]
  | cons x xs =>
    simp only [Option.bind_some, List.map_cons, intsOf, Option.isSome_none, Bool.false_eq_true, if_false]
    unfold cSortD
    rw [ha, Option.bind_some, if_pos (sortOk_tI h), sort_map]
theorem cSort_ints {S : Store} {f : Bool} {ns : List Int} : cSort S [.lst f (ns.map .int)] = some (.lst true ((osort ns).map .int)) := by
  have ha : listArg S [.lst f (ns.map .int)] = some (ns.map .int) := by simp [listArg, vw, lstOf]
  unfold cSort byInts
  rw [ha]
  simp [intsOf_map, cSortI, ha]
/-! the least of pairs -/
theorem fold_min {lt : PyData → PyData → Bool} {m : PyData} : ∀ {xs : List PyData} {x : PyData}, m ∈ x :: xs → (∀ z ∈ x :: xs, lt z m = false ∧ (z = m ∨ lt m z = true)) → xs.foldl (fun a y => if lt y a then y else a) x = m
  | [], x, hm, _ => (List.mem_singleton.mp hm).symm
  | y :: xs, x, hm, hz => by
    rw [List.foldl_cons]
    refine fold_min (xs := xs) ?_ fun z hz' => ?_
    · rcases List.mem_cons.mp hm with e | hm
      · subst e
        rw [if_neg (by rw [(hz y (by simp)).1]; exact Bool.false_ne_true)]
        exact List.mem_cons_self
      · rcases List.mem_cons.mp hm with e | hm
        · subst e
          rcases (hz x List.mem_cons_self).2 with e | c
          · subst e; simp
          · rw [if_pos c]; exact List.mem_cons_self
        · exact List.mem_cons_of_mem _ hm
    · rcases List.mem_cons.mp hz' with e | hz'
      · rw [e]
        split
        · exact hz y (by simp)
        · exact hz x (by simp)
      · exact hz z (List.mem_cons_of_mem _ (List.mem_cons_of_mem _ hz'))
theorem fromPy_tI (a : List Int) : fromPy (pyD (tI a)) = tI a := by
  have h : noLst (pyD (tI a)) = true := by
    rw [pyD_tI, noLst]
    induction a with
    | nil => rfl
    | cons x a ih => simp [noLstL, noLst, ih]
  exact (fromPy_eq (pyD_some (by rw [toPy_tI]; rfl)) h).symm
theorem depthAll_tI : ∀ xs : List (List Int), PyData.depthAll ((xs.map fun x => tI x).map pyD) ≤ 60
  | [] => by simp [PyData.depthAll]
  | x :: xs => by
    have := depthAll_tI xs
    simp only [List.map_cons, PyData.depthAll]
    refine Nat.max_le.mpr ⟨?_, this⟩
    rw [pyD_tI]
    simp [PyData.depth, depth_ints]
theorem noLst_tI (a : List Int) : noLst (pyD (tI a)) = true := by
  rw [pyD_tI, noLst]
  induction a with
  | nil => rfl
  | cons x a ih => simp [noLstL, noLst, ih]
theorem cMin1_tI {S : Store} {f : Bool} {xs : List (List Int)} {m : List Int} (h : ∀ x ∈ xs, x ≠ []) (hm : m ∈ xs) (hl : ∀ x ∈ xs, m ≤ x) : cMin1 S [.lst f (xs.map fun x => tI x)] = some (tI m) := by
  have ha : listArg S [.lst f (xs.map fun x => tI x)] = some (xs.map fun x => tI x) := by simp [listArg, vw, lstOf]
  unfold cMin1 byInts
  rw [ha]
  cases xs with
  | nil => simp at hm
  | cons x xs =>
    simp only [Option.bind_some, List.map_cons, intsOf, Option.isSome_none, Bool.false_eq_true, if_false]
    unfold cMinD
    rw [List.map_cons] at ha
    rw [ha, Option.bind_some]
    dsimp only
    have ok : BestOk (tI x :: xs.map fun x => tI x) := by
      have := sortOk_tI h
      refine ⟨this, fun d hd => ?_, ?_⟩
      · obtain ⟨y, _, rfl⟩ := List.mem_map.mp (show d ∈ (x :: xs).map fun x => tI x from hd)
        exact noLst_tI y
      · exact depthAll_tI (x :: xs)
    rw [if_pos ok]
    congr 1
    have key : PySem.W.minD (pyD (tI x)) ((xs.map fun x => tI x).map pyD) = pyD (tI m) := by
      unfold PySem.W.minD
      have e : pyD (tI x) :: (xs.map fun x => tI x).map pyD = (x :: xs).map fun x => pyD (tI x) := by simp
      refine fold_min ?_ fun z hz => ?_
      · rw [e]; exact List.mem_map.mpr ⟨m, hm, rfl⟩
      · rw [e] at hz
        obtain ⟨y, hy, rfl⟩ := List.mem_map.mp hz
        rw [dataLt_tI, dataLt_tI]
        have := hl y hy
        refine ⟨decide_eq_false this, ?_⟩
        rcases Decidable.em (m < y) with c | c
        · exact .inr (decide_eq_true c)
        · exact .inl (by rw [List.le_antisymm this c])
    rw [key, fromPy_tI]
end Dv

set_option maxHeartbeats 4000000
/-! sorted, min of tuples of ints, in a form that a machine runs -/
namespace Dv
open PySem PySem.Spec PyProof.Rows L2
set_option autoImplicit false
def tupInts : D → Option (List Int)
  | .tup xs => (match intsOf xs with
    | some [] => none
    | r => r)
  | _ => none
def tupsInts : List D → Option (List (List Int))
  | [] => some []
  | d :: ds => match tupInts d with
    | some x => (match tupsInts ds with
      | some xs => some (x :: xs)
      | none => none)
    | none => none
theorem tupInts_eq {d : D} {x : List Int} (h : tupInts d = some x) : d = tI x ∧ x ≠ [] := by
  unfold tupInts at h
  split at h
  · rename_i xs
    cases e : intsOf xs with
    | none => rw [e] at h; cases h
    | some ns =>
      rw [e] at h
      cases ns with
      | nil => cases h
      | cons a r => cases h; exact ⟨by rw [intsOf_eq e], by simp⟩
  · cases h
theorem tupsInts_eq : ∀ {ds : List D} {xs : List (List Int)}, tupsInts ds = some xs → ds = xs.map (fun x => tI x) ∧ ∀ x ∈ xs, x ≠ []
  | [], xs, h => by cases h; exact ⟨rfl, fun x hx => by simp at hx⟩
  | d :: ds, xs, h => by
    unfold tupsInts at h
    cases e1 : tupInts d with
    | none => rw [e1] at h; cases h
    | some x =>
      rw [e1] at h
      cases e2 : tupsInts ds with
      | none => rw [e2] at h; cases h
      | some ys =>
        rw [e2] at h
        cases h
        obtain ⟨h1, h2⟩ := tupInts_eq e1
        obtain ⟨h3, h4⟩ := tupsInts_eq e2
        refine ⟨by rw [List.map_cons, ← h1, ← h3], fun z hz => ?_⟩
        rcases List.mem_cons.mp hz with rfl | hz
        · exact h2
        · exact h4 z hz
def insL (x : List Int) : List (List Int) → List (List Int)
  | [] => [x]
  | y :: ys => if leL x y then x :: y :: ys else y :: insL x ys
def isortL : List (List Int) → List (List Int)
  | [] => []
  | x :: xs => insL x (isortL xs)
theorem insL_perm (x : List Int) : ∀ ys : List (List Int), (insL x ys).Perm (x :: ys)
  | [] => .refl _
  | y :: ys => by
    unfold insL
    split
    · exact .refl _
    · exact ((insL_perm x ys).cons y).trans (List.Perm.swap x y ys)
theorem isortL_perm : ∀ xs : List (List Int), (isortL xs).Perm xs
  | [] => .refl _
  | x :: xs => (insL_perm x _).trans ((isortL_perm xs).cons x)
theorem insL_pw (x : List Int) : ∀ {ys : List (List Int)}, ys.Pairwise (leL · ·) → (insL x ys).Pairwise (leL · ·)
  | [], _ => List.pairwise_singleton _ _
  | y :: ys, h => by
    have q := List.pairwise_cons.mp h
    unfold insL
    split
    · rename_i hxy
      refine List.pairwise_cons.mpr ⟨fun z hz => ?_, h⟩
      rcases List.mem_cons.mp hz with rfl | hz
      · exact hxy
      · exact leL_trans _ _ _ hxy (q.1 z hz)
    · rename_i hxy
      have hyx : leL y x = true := by
        have := leL_total x y
        simp only [Bool.or_eq_true] at this
        exact this.resolve_left hxy
      refine List.pairwise_cons.mpr ⟨fun z hz => ?_, insL_pw x q.2⟩
      rcases List.mem_cons.mp ((insL_perm x ys).mem_iff.mp hz) with rfl | hz
      · exact hyx
      · exact q.1 z hz
theorem isortL_pw : ∀ xs : List (List Int), (isortL xs).Pairwise (leL · ·)
  | [] => .nil
  | x :: xs => insL_pw x (isortL_pw xs)
theorem isortL_eq (xs : List (List Int)) : sortL xs = isortL xs := sorted_eq (sortL_pw xs) (isortL_pw xs) ((sortL_perm xs).trans (isortL_perm xs).symm)
noncomputable def cSortK (S : Store) (ds : List D) : Option D := match ds with
  | [d] => (match vw S d with
    | .lst _ xs => (match tupsInts xs with
      | some ys => some (.lst true ((isortL ys).map fun x => tI x))
      | none => cSort S [d])
    | _ => cSort S [d])
  | _ => cSort S ds
theorem cSortK_eq : cSortK = cSort := by
  funext S ds
  unfold cSortK
  split
  · rename_i d
    split
    · rename_i f xs hv
      split
      · rename_i ys e
        obtain ⟨rfl, h2⟩ := tupsInts_eq e
        rw [cSort_tI hv h2, isortL_eq]
      · rfl
    · rfl
  · rfl
noncomputable def cMinK (S : Store) (ds : List D) : Option D := match ds with
  | [.lst f xs] => (match tupsInts xs with
    | some ys => (match isortL ys with
      | m :: _ => some (tI m)
      | [] => cMin1 S [.lst f xs])
    | none => cMin1 S [.lst f xs])
  | _ => cMin1 S ds
theorem cMinK_eq : cMinK = cMin1 := by
  funext S ds
  unfold cMinK
  split
  · rename_i f xs
    split
    · rename_i ys e
      obtain ⟨rfl, h2⟩ := tupsInts_eq e
      split
      · rename_i m r hm
        have pm := isortL_perm ys
        have pw := isortL_pw ys
        rw [hm] at pm pw
        have q := List.pairwise_cons.mp pw
        refine (cMin1_tI h2 (pm.mem_iff.mp List.mem_cons_self) fun x hx => ?_).symm
        rcases List.mem_cons.mp (pm.mem_iff.mpr hx) with rfl | hx
        · exact List.le_refl _
        · exact of_decide_eq_true (q.1 x hx)
      · rfl
    · rfl
  · rfl
section
variable {s : Sit}
theorem sem_sortK : CallSem s cSortK (fun vs H Q => rSortedI s.X.K vs H Q ∨ rSortedD s.X.K vs H Q) := by rw [cSortK_eq]; exact sem_sort
theorem sem_minK : CallSem s cMinK (fun vs H Q => rMin s.X.K vs H Q ∨ rBestD PySem.W.minD s.X.K vs H Q) := by rw [cMinK_eq]; exact sem_min1
end
end Dv

set_option maxHeartbeats 4000000
/-! starred items; many targets at once, lists of their own among them; is not True -/
namespace Dv
open PySem PySem.Spec PyProof.Rows L2
set_option autoImplicit false
/-! ### *e in a display, in a call -/
def aStar (m : ME) (n : MA) : MA := fun ρ S => (m ρ S).bind fun d S1 => match seqOf (vw S1 d) with
  | some xs => (n ρ S1).bind fun ds S2 => .ok (coolL xs ++ ds) S2
  | none => .bad
theorem coolL_rp {K : PySem.W.Frag} {H : Hp} {O : Ow} : ∀ {vs : List V} {ds : List D}, RpAll K H O vs ds → RpAll K H O vs (coolL ds)
  | _, _, .nil => .nil
  | _, _, .cons r t => .cons r.cool (coolL_rp t)
theorem RpAll.rpl {K : PySem.W.Frag} {Z : ZT} {A : Wy} {S : Store} {H : Hp} : ∀ {vs : List V} {ds : List D}, RpAll K H (Own A S) vs ds → RpL K Z A S H vs ds
  | _, _, .nil => .nil
  | _, _, .cons r t => .cons (.inr (.inl r)) (RpAll.rpl t)
theorem RpL.append {K : PySem.W.Frag} {Z : ZT} {A : Wy} {S : Store} {H : Hp} : ∀ {vs ws : List V} {ds es : List D}, RpL K Z A S H vs ds → RpL K Z A S H ws es → RpL K Z A S H (vs ++ ws) (ds ++ es)
  | _, _, _, _, .nil, h => h
  | _, _, _, _, .cons r t, h => .cons r (RpL.append t h)
section
variable {s : Sit} {e : Expr} {es : List Expr} {m : ME} {n : MA} {p : Pos}
theorem sa_star (he : SE s e m) (hr : SA s es n) (hs : starEach (.Starred e p :: es) s.X.env = (true, eval e s.X.env) :: starEach es s.X.env := by rfl) : SA s (.Starred e p :: es) (aStar m n) := by
  refine PA.weak (StX.pa_star he hr hs) fun σ H Q q => ?_
  obtain ⟨ρ, S, A, c, q⟩ := q
  refine tD_bindA c q fun d S1 v H1 _ p1 c1 r1 q1 => ?_
  cases hq : seqOf (vw S1 d) with
  | none => rw [hq] at q1; exact q1.elim
  | some xs =>
    rw [hq] at q1
    have nn : ∀ k fs, vw S1 d ≠ .err k fs := fun k fs z => by rw [z] at hq; cases hq
    have sn := r1.seen c1.cells nn
    have key : ∃ a vs, v = .ref a ∧ (SqT s.X.K H1 a vs ∨ SqL s.X.K H1 a vs) ∧ RpAll s.X.K H1 (Own A S1) vs xs := by
      obtain ⟨a, vs, h1, h2, h3⟩ := sn.seq hq
      exact ⟨a, vs, h1, h2.symm, h3⟩
    obtain ⟨a, vs, rfl, hs2, hr2⟩ := key
    refine ⟨a, vs, rfl, hs2, ρ, S1, A, c1, ?_⟩
    cases en : n ρ S1 with
    | exc x fs S2 => rw [en] at q1; intro dd H2 p2 z; exact q1 dd H2 p2 z
    | bad => rw [en] at q1; exact q1
    | ok ds S2 =>
      rw [en] at q1
      dsimp only [bind_ok] at q1
      intro ws H2 p2 r2
      exact q1 _ H2 p2 ((RpAll.rpl (coolL_rp (hr2.step c1.cells p2))).append r2)
end
/-! ### is not True, is not False -/
def dNotB (S : Store) (d e : D) : Option D := match vw S d, vw S e with
  | .bl a, .bl b => some (.bl (!decide (a = b)))
  | _, _ => none
section
variable {s : Sit}
theorem sem_notB : OpSem s dNotB rNotB := by
  intro A S H v w d e x Q c rd re hf q
  unfold dNotB at hf
  split at hf
  · rename_i a b e1 e2
    cases hf
    exact ⟨a, b, (rd.as c e1).bl, (re.as c e2).bl, old_of (.bl _) rfl q⟩
  · cases hf
end
/-! ### x, y, .. = e, f, .. -/
def parN (base : Nat) : List (Nat × Bool × ME) → MS
  | [] => fun ρ S => .nx ρ S
  | (i, o, m) :: r => fun ρ S => bindE (m ρ S) ρ fun d S1 => if o then (if isNew d then (match parN base r ρ S1 with
      | .nx ρ1 S2 => holdO base i d ρ1 S2
      | _ => .bad) else .bad)
    else (match parN base r ρ S1 with
      | .nx ρ1 S2 => holdV base i d ρ1 S2
      | .exc c fs ρ1 S2 => .exc c fs ρ1 S2
      | _ => .bad)
/-- the values, one after the other -/
def nestP (s : Sit) (σ : L2.St) : List (Nat × Bool × ME) → Hp → (List V → Hp → Prop) → Prop
  | [], H, k => k [] H
  | (_, _, m) :: r, H, k => tD s m σ H fun v H1 => nestP s σ r H1 fun vs H2 => k (v :: vs) H2
def setAll : L2.St → List (Nat × Bool × ME) → List V → L2.St
  | σ, (i, _, _) :: r, v :: vs => (setAll σ r vs).set i (some v)
  | σ, _, _ => σ
theorem nestP_mono {s : Sit} {σ : L2.St} : ∀ {ts : List (Nat × Bool × ME)} {H : Hp} {k k' : List V → Hp → Prop}, (∀ vs H, k vs H → k' vs H) → nestP s σ ts H k → nestP s σ ts H k'
  | [], _, _, _, h, q => h _ _ q
  | (_, _, _) :: _, _, _, _, h, q => tD_mono (fun v H1 q1 => nestP_mono (fun vs H2 q2 => h _ _ q2) q1) q
section
variable {s : Sit} {ρ : Rho} {σ : L2.St}
theorem RpS.pss {K : PySem.W.Frag} {Z : ZT} {b : Nat} {A A' : Wy} {S S' : Store} {H H' : Hp} {v : V} {d : D} (c : Cells K A S H) (p : Pss b A S H A' S' H') (h : RpS K Z A S H v d) (hd : ∀ n, d = .loc n → n < b) : RpS K Z A' S' H' v d := by
  rcases h with ⟨n, x, h1, h2, h3⟩ | h | ⟨k, fs, dd, h1, h2, h3⟩
  · have hn := hd n h1
    have lv : (S'[n]?.join).isSome = true := by rw [p.lives n hn, h3]; rfl
    obtain ⟨x', h'⟩ := live_iff.mp lv
    exact .inl ⟨n, x', h1, by rw [p.low n hn]; exact h2, h'⟩
  · exact .inr (.inl (h.ext c.owns p.ext.own p.growO))
  · exact .inr (.inr ⟨k, fs, dd, h1, h2, h3.ext c.owns p.ext.own p.growO⟩)
theorem parN_ok : ∀ (ts : List (Nat × Bool × ME)) {A : Wy} {S : Store} {H : Hp} {D : Ends}, Cn s ρ S A σ H → SOut s A S H D (parN s.base ts ρ S) → nestP s σ ts H fun vs H' => D.nx (setAll σ ts vs) H'
  | [], A, S, H, D, c, q => q σ H A .refl c
  | (i, o, m) :: r, A, S, H, D, c, q => by
    refine ⟨ρ, S, A, c, ?_⟩
    unfold parN at q
    cases em : m ρ S with
    | exc x fs S1 => rw [em] at q; intro dd H1 p z; exact q dd σ H1 A (p.pss c.cells) (c.step p) z
    | bad => rw [em] at q; exact q
    | ok d S1 =>
      rw [em] at q
      dsimp only [bindE_ok] at q
      intro v H1 p rv f
      have c1 := c.step p
      cases o with
      | false =>
        rw [if_neg Bool.false_ne_true] at q
        let Q' : Ends := { D with nx := fun σ' H' => D.nx (σ'.set i (some v)) H' }
        have key : ∀ rr : ResS, SOut s A S H D (match rr with | .nx ρ1 S2 => holdV s.base i d ρ1 S2 | .exc c fs ρ1 S2 => .exc c fs ρ1 S2 | _ => .bad) → SOut s A S1 H1 Q' rr := fun rr q => by
          cases rr with
          | nx ρ1 S3 =>
            intro σ3 H3 A3 p3 c3
            have q : SOut s A S H D (holdV s.base i d ρ1 S3) := q
            have hd : ∀ n, d = .loc n → n < s.base := fun n z => by
              subst z
              rcases Nat.lt_or_ge n s.base with z | z
              · exact z
              · have : holdV s.base i (.loc n) ρ1 S3 = .bad := by
                  unfold holdV
                  dsimp only
                  rw [if_neg (by omega)]
                rw [this] at q; exact q.elim
            exact holdV_go c3 (rv.pss c1.cells p3 hd) (SOut.on ((p.pss c.cells).trans p3) q)
          | exc x fs ρ1 S2 => exact SOut.on (D := Q') (p.pss c.cells) q
          | _ => exact q.elim
        exact parN_ok r (D := Q') c1 (key _ q)
      | true =>
        rw [if_pos rfl] at q
        split at q
        case isFalse => exact q.elim
        rename_i hn
        obtain ⟨a, rfl, ha, ca, fc⟩ := f hn
        have c2 := more_cn c p ha ca fc
        have nph : ∀ x, A.ph x → x ≠ a := fun x z y => by
          obtain ⟨o, q, _⟩ := c.cells.phs x z
          rw [y, ha] at q; cases q
        have na : ¬ OwC (A.more a) S1 a := c2.cells.apart a (.inr rfl)
        have oc : OwC (A.more a) S1 = OwC A S := by
          have : OwC (A.more a) S1 = OwC A S1 := rfl
          rw [this, p.lives.ownC]
        let Q' : Ends := { D with nx := fun σ' H' => D.nx (σ'.set i (some (.ref a))) H' }
        have key : ∀ rr : ResS, SOut s A S H D (match rr with | .nx ρ1 S3 => holdO s.base i d ρ1 S3 | _ => .bad) → SOut s (A.more a) S1 H1 Q' rr := fun rr q => by
          cases rr with
          | nx ρ1 S3 =>
            intro σ3 H3 A3 p3 c3
            have q : SOut s A S H D (holdO s.base i d ρ1 S3) := q
            unfold holdO at q
            split at q
            case isFalse => exact q.elim
            rename_i hi
            simp only [Bool.and_eq_true, decide_eq_true_eq] at hi
            have hp : A3.ph = fun x => A.ph x ∨ x = a := p3.ph
            have g3 : Grow H1 (Own (A.more a) S1) (Own A3 S3) := p3.growO
            have ca' : Cell s.X.K H1 (Own (A.more a) S1) a d := by rw [more_own]; exact ca
            have ca3 : Cell s.X.K H3 (Own A3 S3) a d := ca'.ext c2.cells.owns p3.ext.own g3 fun o z => p3.ext a o z na
            obtain ⟨c4, own0⟩ := adopt (ph := A.ph) c3 hp ca3 hi.2 nph
            refine q _ H3 ⟨fun n => if n = s.base + i then a else A3.loc n, A.ph⟩ ⟨?_, ?_, fun x z => p.free c.cells x (p3.free x z), fun k hk => ?_, rfl, fun k hk => ?_, ?_⟩ c4
            · intro x o z y
              refine p3.ext x o (p.ext x o z y) ?_
              rw [oc]; exact y
            · intro x z
              rcases own0 x z with z | z
              · exact .inr (by rw [z]; exact ha)
              · rcases p3.grow x z with z | z
                · rw [oc] at z; exact .inl z
                · exact .inr (p.free c.cells x z)
            · show (if k = s.base + i then a else A3.loc k) = _
              rw [if_neg (by omega)]
              exact p3.low k hk
            · rw [List.getElem?_set_ne (by omega), p3.lives k hk]
              exact p.lives k
            · rw [List.length_set, p3.len, p.len]
          | _ => exact q.elim
        exact parN_ok r (D := Q') c2 (key _ q)
end
/-- a new object beside it -/
theorem SOut.lay {s : Sit} {A : Wy} {S : Store} {H : Hp} {D : Ends} {r : ResS} (h : SOut s A S H D r) : SOut s A S H { D with nx := fun σ H' => ∀ p u, H' p = none → D.nx σ (upd H' p u) } r := by
  cases r with
  | nx ρ1 S1 =>
    intro σ1 H1 A1 p c z u hz
    have sm : Same H1 (upd H1 z u) := same_upd hz
    have p2 : Pst s.X.K A1 S1 H1 S1 (upd H1 z u) := .of_same c.cells sm
    exact h σ1 _ A1 (p.trans (p2.pss c.cells)) (c.step p2)
  | bk _ _ => exact h
  | ct _ _ => exact h
  | rt _ _ => exact h
  | exc _ _ _ _ => exact h
  | bad => exact h
theorem nestP_len {s : Sit} {σ : L2.St} : ∀ {ts : List (Nat × Bool × ME)} {H : Hp} {k : List V → Hp → Prop}, nestP s σ ts H k → nestP s σ ts H fun vs H' => vs.length = ts.length ∧ k vs H'
  | [], _, _, q => ⟨rfl, q⟩
  | (_, _, _) :: _, _, _, q => tD_mono (fun v H1 q1 => nestP_mono (fun vs H2 q2 => ⟨by simp [q2.1], q2.2⟩) (nestP_len q1)) q
theorem setAll_set {i : Nat} {v : V} : ∀ {ts : List (Nat × Bool × ME)} {vs : List V} {σ : L2.St}, i ∉ ts.map (·.1) → setAll (σ.set i (some v)) ts vs = (setAll σ ts vs).set i (some v)
  | [], vs, σ, _ => by cases vs <;> rfl
  | (j, _, _) :: r, [], σ, _ => rfl
  | (j, _, _) :: r, w :: vs, σ, h => by
    simp only [List.map_cons, List.mem_cons, not_or] at h
    show (setAll (σ.set i (some v)) r vs).set j (some w) = ((setAll σ r vs).set j (some w)).set i (some v)
    rw [setAll_set h.2, List.set_comm _ _ h.1]
def gNs : List Nat → TGs
  | [] => gNil
  | i :: r => gCons (gName i) (gNs r)
theorem gNs_ok {H : Hp} {Q : L2.St → Hp → Prop} : ∀ {ts : List (Nat × Bool × ME)} {vs : List V} {σ : L2.St}, vs.length = ts.length → (ts.map (·.1)).Nodup → Q (setAll σ ts vs) H → gNs (ts.map (·.1)) vs σ H Q
  | [], [], σ, _, _, q => ⟨rfl, q⟩
  | [], _ :: _, σ, h, _, _ => by simp at h
  | (i, _, _) :: r, [], σ, h, _, _ => by simp at h
  | (i, _, _) :: r, v :: vs, σ, h, nd, q => by
    simp only [List.map_cons, List.nodup_cons] at nd
    exact ⟨v, vs, rfl, gNs_ok (by simpa using h) nd.2 (by rw [setAll_set nd.1]; exact q)⟩
def tNest (s : Sit) (ts : List (Nat × Bool × ME)) : TA := fun σ H Q => nestP s σ ts H Q
section
variable {s : Sit} {e : Expr} {es tgs : List Expr} {m : ME} {i : Nat} {o : Bool} {ts : List (Nat × Bool × ME)} {kt k2 : Nat} {pt pt2 pos : Pos}
theorem pn_nil : PA s.X [] (tNest s []) := pa_nil
theorem pn_cons (he : SE s e m) (r : PA s.X es (tNest s ts)) (hs : starEach (e :: es) s.X.env = (false, eval e s.X.env) :: starEach es s.X.env := by rfl) : PA s.X (e :: es) (tNest s ((i, o, m) :: ts)) := pa_cons he r hs
/-- by a tuple -/
theorem s_parT (hc : s.X.calm = true) (ha : PA s.X es (tNest s ts)) (hg : PGs s.X tgs (gNs (ts.map (·.1)))) (nd : (ts.map (·.1)).Nodup) (hl : ts.length ≤ 1000)
    (hn : (assignEach tgs s.X.env).length = ts.length := by rfl) (hst : (assignEach tgs s.X.env).findIdx? (·.1) = none := by rfl)
    (hs : swapsWithSole [.Tuple tgs kt pt] (.Tuple es k2 pt2) pos.line s.X.env = pure false := by rfl) (hw : swappedStores [.Tuple tgs kt pt] (.Tuple es k2 pt2) s.X.env = pure none := by rfl)
    (h1 : (assignEach [.Tuple tgs kt pt] s.X.env).map (·.2) = [assign (.Tuple tgs kt pt) s.X.env] := by rfl) :
    SS s (.Assign [.Tuple tgs kt pt] (.Tuple es k2 pt2) pos) (parN s.base ts) := by
  refine PS.weak (ps_asg (pe_tup ha) (pg_tup hc hg hn hst) hs hw h1) fun D σ H q => ?_
  obtain ⟨ρ, S, A, c, q⟩ := q
  refine nestP_mono (fun vs H1 h => ?_) (nestP_len (parN_ok ts c q.lay))
  obtain ⟨hv, h⟩ := h
  refine ⟨by rw [hv, line_eq]; exact Nat.le_trans hl (by decide), fun p hp => ?_⟩
  exact ⟨p, vs, rfl, .of upd_same, hv, gNs_ok hv nd (h p _ hp)⟩
variable {a b e3 : Expr} {m1 m2 m3 : ME} {j l : Nat} {o1 o2 o3 : Bool} {x y z : Str} {px py pz : Pos}
/-- by exchange -/
theorem s_parS2 (hc : s.X.calm = true) (hN : s.X.N.Nodup) (hi : s.X.N[i]? = some x) (hj : s.X.N[j]? = some y) (hij : i ≠ j)
    (hx : s.X.env.scope.names.lookup x = some .local) (hy : s.X.env.scope.names.lookup y = some .local) (ha : PA s.X [a, b] (tNest s [(i, o1, m1), (j, o2, m2)]))
    (hw : swappedStores [.Tuple [.Name x px, .Name y py] kt pt] (.Tuple [a, b] k2 pt2) s.X.env = pure (some [x, y]))
    (hs : swapsWithSole [.Tuple [.Name x px, .Name y py] kt pt] (.Tuple [a, b] k2 pt2) pos.line s.X.env = pure false := by rfl) :
    SS s (.Assign [.Tuple [.Name x px, .Name y py] kt pt] (.Tuple [a, b] k2 pt2) pos) (parN s.base [(i, o1, m1), (j, o2, m2)]) := by
  refine PS.weak (ps_par hc hN hi hj hij hx hy ha hw hs) fun D σ H q => ?_
  obtain ⟨ρ, S, A, c, q⟩ := q
  refine nestP_mono (fun vs H1 h => ?_) (nestP_len (parN_ok _ c q))
  obtain ⟨hv, h⟩ := h
  match vs, hv with
  | [v, w], _ => exact ⟨v, w, rfl, by
      have e : (σ.set i (some v)).set j (some w) = (σ.set j (some w)).set i (some v) := List.set_comm _ _ hij
      rw [e]; exact h⟩
theorem s_parS3 (hc : s.X.calm = true) (hN : s.X.N.Nodup) (hi : s.X.N[i]? = some x) (hj : s.X.N[j]? = some y) (hl : s.X.N[l]? = some z) (hij : i ≠ j) (hil : i ≠ l) (hjl : j ≠ l)
    (hx : s.X.env.scope.names.lookup x = some .local) (hy : s.X.env.scope.names.lookup y = some .local) (hz : s.X.env.scope.names.lookup z = some .local) (ha : PA s.X [a, b, e3] (tNest s [(i, o1, m1), (j, o2, m2), (l, o3, m3)]))
    (hw : swappedStores [.Tuple [.Name x px, .Name y py, .Name z pz] kt pt] (.Tuple [a, b, e3] k2 pt2) s.X.env = pure (some [x, y, z]))
    (hs : swapsWithSole [.Tuple [.Name x px, .Name y py, .Name z pz] kt pt] (.Tuple [a, b, e3] k2 pt2) pos.line s.X.env = pure false := by rfl) :
    SS s (.Assign [.Tuple [.Name x px, .Name y py, .Name z pz] kt pt] (.Tuple [a, b, e3] k2 pt2) pos) (parN s.base [(i, o1, m1), (j, o2, m2), (l, o3, m3)]) := by
  refine PS.weak (ps_par3 hc hN hi hj hl hij hil hjl hx hy hz ha hw hs) fun D σ H q => ?_
  obtain ⟨ρ, S, A, c, q⟩ := q
  refine nestP_mono (fun vs H1 h => ?_) (nestP_len (parN_ok _ c q))
  obtain ⟨hv, h⟩ := h
  match vs, hv with
  | [u, v, w], _ => exact ⟨u, v, w, rfl, by
      have e : ((σ.set i (some u)).set j (some v)).set l (some w) = ((σ.set l (some w)).set j (some v)).set i (some u) := by
        rw [List.set_comm _ _ hij, List.set_comm (some u) (some w) hil, List.set_comm (some v) (some w) hjl]
      rw [e]; exact h⟩
end
end Dv

set_option maxHeartbeats 4000000
/-! dicts with keys ints and texts -/
namespace Dv
open PySem PySem.Spec PyProof.Rows L2
set_option autoImplicit false
def dctOf : D → Option (List (D × D))
  | .dct _ kvs => some kvs
  | _ => none
def keyOf : D → Option Key
  | .int i => some (.inl i)
  | .str x => some (.inr x)
  | _ => none
def eqK (k : Key) (d : D) : Bool := match k, d with
  | .inl i, .int j => decide (j = i)
  | .inr x, .str y => decide (y = x)
  | _, _ => false
theorem eqK_keyD (k k' : Key) : eqK k (keyD k') = decide (k' = k) := by
  cases k <;> cases k' <;> simp [eqK, keyD]
def valD (ds : List (D × D)) (k : Key) : Option D := (ds.find? fun p => eqK k p.1).map (·.2)
def putD (ds : List (D × D)) (k : Key) (x : D) : List (D × D) := if ds.any fun p => eqK k p.1 then ds.map fun p => if eqK k p.1 then (p.1, x) else p else ds ++ [(keyD k, x)]
section
variable {K : PySem.W.Frag} {H : Hp} {O : Ow}
theorem RpKV.val {k : Key} : ∀ {kvs : List (Key × V)} {ds : List (D × D)}, RpKV K H O kvs ds → match valD ds k with
    | some d => ∃ v, valV kvs k = some v ∧ Rp K H O v d
    | none => valV kvs k = none
  | _, _, .nil => rfl
  | _, _, .cons (k := k') (v := v) (d := d) (vs := vs) (ds := ds) h r => by
    have ih := RpKV.val (k := k) r
    by_cases e : k' = k
    · have e1 : valD ((keyD k', d) :: ds) k = some d := by simp [valD, List.find?_cons, eqK_keyD, e]
      rw [e1]
      exact ⟨v, valV_pos e, h⟩
    · have e1 : valD ((keyD k', d) :: ds) k = valD ds k := by simp [valD, List.find?_cons, eqK_keyD, e]
      rw [e1, valV_neg (p := (k', v)) e]
      exact ih
theorem RpKV.any {k : Key} : ∀ {kvs : List (Key × V)} {ds : List (D × D)}, RpKV K H O kvs ds → (ds.any fun p => eqK k p.1) = kvs.any fun kv => decide (kv.1 = k)
  | _, _, .nil => rfl
  | _, _, .cons h r => by simp only [List.any_cons, eqK_keyD, RpKV.any r]
theorem RpKV.repl {k : Key} {v : V} {x : D} (rx : Rp K H O v x) : ∀ {kvs : List (Key × V)} {ds : List (D × D)}, RpKV K H O kvs ds → RpKV K H O (kvs.map fun kv => if kv.1 = k then (kv.1, v) else kv) (ds.map fun p => if eqK k p.1 then (p.1, x) else p)
  | _, _, .nil => .nil
  | _, _, .cons (k := k') h r => by
    simp only [List.map_cons, eqK_keyD]
    by_cases e : k' = k
    · simp only [e, decide_true, if_true]
      exact .cons rx (RpKV.repl rx r)
    · simp only [e, decide_false, if_false, Bool.false_eq_true]
      exact .cons h (RpKV.repl rx r)
theorem RpKV.snoc {k : Key} {v : V} {x : D} (rx : Rp K H O v x) : ∀ {kvs : List (Key × V)} {ds : List (D × D)}, RpKV K H O kvs ds → RpKV K H O (kvs ++ [(k, v)]) (ds ++ [(keyD k, x)])
  | _, _, .nil => .cons rx .nil
  | _, _, .cons h r => .cons h (RpKV.snoc rx r)
theorem RpKV.put {k : Key} {v : V} {x : D} {kvs : List (Key × V)} {ds : List (D × D)} (rx : Rp K H O v x) (r : RpKV K H O kvs ds) : RpKV K H O (putK kvs k v) (putD ds k x) := by
  unfold putK putD
  rw [r.any]
  split
  · exact r.repl rx
  · exact r.snoc rx
theorem RpKV.length : ∀ {kvs : List (Key × V)} {ds : List (D × D)}, RpKV K H O kvs ds → kvs.length = ds.length
  | _, _, .nil => rfl
  | _, _, .cons _ r => by simp [RpKV.length r]
def mergeD (ds more : List (D × D)) : List (D × D) := more.foldl (fun acc p => match keyOf p.1 with
  | some k => putD acc k p.2
  | none => acc) ds
theorem keyOf_keyD (k : Key) : keyOf (keyD k) = some k := by cases k <;> rfl
theorem RpKV.merge : ∀ {more kvs : List (Key × V)} {ms ds : List (D × D)}, RpKV K H O more ms → RpKV K H O kvs ds → RpKV K H O (mergeK kvs more) (mergeD ds ms)
  | _, _, _, _, .nil, r => r
  | (k, v) :: more, kvs, _, ds, .cons h t, r => by
    have ih := RpKV.merge t (r.put (k := k) h)
    unfold mergeD mergeK at *
    simp only [List.foldl_cons, keyOf_keyD]
    exact ih
theorem Seen.dict {v : V} {d : D} {ds : List (D × D)} (s : Seen K H O v d) (e : dctOf d = some ds) : ∃ a kvs, v = .ref a ∧ H a = some (.dK kvs) ∧ RpKV K H O kvs ds := by
  cases s with
  | rp r =>
    cases r with
    | dct n h r => cases e; exact ⟨_, _, rfl, h, r⟩
    | _ => cases e
  | cell c =>
    cases c with
    | dct h r => cases e; exact ⟨_, _, rfl, h, r⟩
    | _ => cases e
end
section
variable {s : Sit}
theorem key_val {A : Wy} {S : Store} {H : Hp} {w : V} {e : D} {k : Key} (c : Cells s.X.K A S H) (r : RpS s.X.K s.Z A S H w e) (h : keyOf (vw S e) = some k) : w = kV k := by
  cases he : vw S e with
  | int i => rw [he] at h; cases h; exact (r.as c he).int
  | str x => rw [he] at h; cases h; exact (r.as c he).str
  | _ => rw [he] at h; cases h
theorem dict_val {A : Wy} {S : Store} {H : Hp} {v : V} {d : D} {ds : List (D × D)} (c : Cells s.X.K A S H) (r : RpS s.X.K s.Z A S H v d) (h : dctOf (vw S d) = some ds) : ∃ a kvs, v = .ref a ∧ H a = some (.dK kvs) ∧ RpKV s.X.K H (Own A S) kvs ds :=
  (r.seen c fun k fs z => by rw [z] at h; cases h).dict h
/-! d[k], k in d -/
def rDGet : R2 := fun x y H Q => ∃ a v, x = .ref a ∧ DGet H a y (some v) ∧ Q v H
def rDIn (n : Bool) : R2 := fun y x H Q => ∃ a o, x = .ref a ∧ DGet H a y o ∧ Q (.bl (if n then !o.isSome else o.isSome)) H
theorem ix_dict {X : Cx} (hu : X.A.units + 1 < cLine) : IxR X rDGet := by
  intro value slice pins s σ H x y v u Q I rx ry h hs
  obtain ⟨a, z, rfl, g, q⟩ := h
  obtain rfl : v = Value.ref a := rx
  exact tail_any (dict_typeIs I g) PySem.F.slot_dict_getitem.lookup (d_getItem (Q := fun r s' => EP X pins σ Q r s') hu I g ry fun w' s3 I3 rw' => ⟨z, H, I3, rw', q⟩) hs
theorem op_dIn {X : Cx} (hu : X.A.units + 65 < cLine) : OpR X (compareOp .In) (rDIn false) := by
  intro pins s σ H x y v u Q I rx ry h
  obtain ⟨a, o, rfl, g, q⟩ := h
  obtain rfl : u = Value.ref a := ry
  exact d_in (by omega) I g rx fun s3 I3 => ⟨.bl o.isSome, H, I3, rfl, q⟩
theorem op_dNotIn {X : Cx} (hu : X.A.units + 65 < cLine) : OpR X (compareOp .NotIn) (rDIn true) := by
  intro pins s σ H x y v u Q I rx ry h
  obtain ⟨a, o, rfl, g, q⟩ := h
  obtain rfl : u = Value.ref a := ry
  exact d_notIn (by omega) I g rx fun s3 I3 => ⟨.bl (!o.isSome), H, I3, rfl, q⟩
def dDIx (S : Store) (d e : D) : Option D := match dctOf (vw S d), keyOf (vw S e) with
  | some ds, some k => (valD ds k).map cool
  | _, _ => none
def inDict (S : Store) (e d : D) : Option Bool := match dctOf (vw S d), keyOf (vw S e) with
  | some ds, some k => some (valD ds k).isSome
  | _, _ => none
def dDIn (S : Store) (e d : D) : Option D := (inDict S e d).map .bl
def dDNotIn (S : Store) (e d : D) : Option D := (inDict S e d).map fun b => .bl (!b)
theorem get_of {A : Wy} {S : Store} {H : Hp} {kvs : List (Key × V)} {ds : List (D × D)} {a : Addr} {k : Key} (h : H a = some (.dK kvs)) (r : RpKV s.X.K H (Own A S) kvs ds) : ∃ o, DGet H a (kV k) o ∧ o.isSome = (valD ds k).isSome ∧ ∀ d, valD ds k = some d → ∃ v, o = some v ∧ Rp s.X.K H (Own A S) v d := by
  have q := r.val (k := k)
  refine ⟨valV kvs k, .k h, ?_, fun d hd => ?_⟩
  · cases e : valD ds k with
    | none => rw [e] at q; rw [q]; rfl
    | some d => rw [e] at q; obtain ⟨v, e1, _⟩ := q; rw [e1]; rfl
  · rw [hd] at q; exact q
theorem sem_dIx : OpSem s dDIx rDGet := by
  intro A S H v w d e x Q c rd re hf q
  unfold dDIx at hf
  split at hf
  case h_2 => cases hf
  rename_i ds k h1 h2
  rw [Option.map_eq_some_iff] at hf
  obtain ⟨y, hy, rfl⟩ := hf
  obtain ⟨a, kvs, rfl, h3, h4⟩ := dict_val c rd h1
  rw [key_val c re h2]
  obtain ⟨o, g, _, hv⟩ := get_of (s := s) (k := k) h3 h4
  obtain ⟨z, rfl, rz⟩ := hv y hy
  exact ⟨a, z, rfl, g, old_of rz.cool (isNew_cool y) q⟩
theorem sem_dIn : OpSem s dDIn (rDIn false) := by
  intro A S H v w d e x Q c rd re hf q
  simp only [dDIn, Option.map_eq_some_iff] at hf
  obtain ⟨b, hf, rfl⟩ := hf
  unfold inDict at hf
  split at hf
  case h_2 => cases hf
  rename_i ds k h1 h2
  cases hf
  obtain ⟨a, kvs, rfl, h3, h4⟩ := dict_val c re h1
  rw [key_val c rd h2]
  obtain ⟨o, g, hs, _⟩ := get_of (s := s) (k := k) h3 h4
  refine ⟨a, o, rfl, g, ?_⟩
  rw [if_neg Bool.false_ne_true, hs]
  exact old_of (.bl _) rfl q
theorem sem_dNotIn : OpSem s dDNotIn (rDIn true) := by
  intro A S H v w d e x Q c rd re hf q
  simp only [dDNotIn, Option.map_eq_some_iff] at hf
  obtain ⟨b, hf, rfl⟩ := hf
  unfold inDict at hf
  split at hf
  case h_2 => cases hf
  rename_i ds k h1 h2
  cases hf
  obtain ⟨a, kvs, rfl, h3, h4⟩ := dict_val c re h1
  rw [key_val c rd h2]
  obtain ⟨o, g, hs, _⟩ := get_of (s := s) (k := k) h3 h4
  refine ⟨a, o, rfl, g, ?_⟩
  rw [if_pos rfl, hs]
  exact old_of (.bl _) rfl q
/-! a[i] of a list, a tuple, a text, a dict; in of them -/
def dIx3 (S : Store) (d e : D) : Option D := (dIx' S d e).orElse fun _ => dDIx S d e
def dIn3 (S : Store) (d e : D) : Option D := (dIn S d e).orElse fun _ => dDIn S d e
def dNotIn3 (S : Store) (d e : D) : Option D := (dNotIn S d e).orElse fun _ => dDNotIn S d e
theorem ix3 (hu : s.X.A.units + 65 < cLine) : IxR s.X (fun x y H Q => rIx s.X.K x y H Q ∨ rDGet x y H Q) := ix_seq.or (ix_dict (by omega))
theorem sem_ix3 : OpSem s dIx3 (fun x y H Q => rIx s.X.K x y H Q ∨ rDGet x y H Q) := sem_ix.or sem_dIx
theorem op_in3 (hu : s.X.A.units + 65 < cLine) : OpR s.X (compareOp .In) (fun x y H Q => (rInD s.X.K x y H Q ∨ rInT s.X.K false x y H Q) ∨ rDIn false x y H Q) := (op_in2 hu).or (op_dIn hu)
theorem sem_in3 : OpSem s dIn3 (fun x y H Q => (rInD s.X.K x y H Q ∨ rInT s.X.K false x y H Q) ∨ rDIn false x y H Q) := sem_in.or sem_dIn
theorem op_notIn3 (hu : s.X.A.units + 65 < cLine) : OpR s.X (compareOp .NotIn) (fun x y H Q => (rNotInD s.X.K x y H Q ∨ rInT s.X.K true x y H Q) ∨ rDIn true x y H Q) := (op_notIn2 hu).or (op_dNotIn hu)
theorem sem_notIn3 : OpSem s dNotIn3 (fun x y H Q => (rNotInD s.X.K x y H Q ∨ rInT s.X.K true x y H Q) ∨ rDIn true x y H Q) := sem_notIn.or sem_dNotIn
end
/-! ### a cell's content, changed -/
theorem Pst.mutC {K : PySem.W.Frag} {A : Wy} {S : Store} {H : Hp} {n : Nat} {d0 d1 : D} {u : HO} (c : Cells K A S H) (h : S[n]? = some (some d0)) (ce : Cell K (upd H (A.loc n) u) (Own A S) (A.loc n) d1) :
    Pst K A S H (S.set n (some d1)) (upd H (A.loc n) u) := by
  have hn : n < S.length := by
    rcases Nat.lt_or_ge n S.length with z | z
    · exact z
    · rw [List.getElem?_eq_none z] at h; cases h
  have oc : OwC A S (A.loc n) := ⟨n, _, h, rfl⟩
  have e : Ext (OwC A S) H (upd H (A.loc n) u) := fun a o q z => by
    rw [upd_ne (fun y => z (by rw [y]; exact oc))]
    exact q
  have lv : Lives S (S.set n (some d1)) := fun m => by
    rw [List.getElem?_set]
    split
    · rename_i z; subst z
      rw [h]; rfl
    · rfl
  have get : ∀ (m : Nat) (d : D), (S.set n (some d1))[m]? = some (some d) → (m = n ∧ d = d1) ∨ (m ≠ n ∧ S[m]? = some (some d)) := fun m d q => by
    rw [List.getElem?_set] at q
    split at q
    · rename_i z
      cases q
      exact .inl ⟨z.symm, rfl⟩
    · rename_i z; exact .inr ⟨fun y => z y.symm, q⟩
  refine ⟨e, lv, List.length_set .., ⟨fun m d q => ?_, fun m k d e' q q' z => ?_, fun a z => ?_, fun a z => by rw [lv.ownC]; exact c.apart a z⟩⟩
  · rw [lv.own]
    rcases get m d q with ⟨rfl, rfl⟩ | ⟨h1, h2⟩
    · exact ce
    · refine (c.at_ m d h2).ext c.owns e.own (.refl _ _) fun o w => ?_
      rw [upd_ne (fun y => h1 (c.inj m n d _ h2 h y))]
      exact w
  · have live : ∀ (m : Nat) (d : D), (S.set n (some d1))[m]? = some (some d) → ∃ d', S[m]? = some (some d') := fun m d q => by
      rcases get m d q with ⟨rfl, rfl⟩ | ⟨h1, h2⟩
      · exact ⟨_, h⟩
      · exact ⟨_, h2⟩
    obtain ⟨d1, h1⟩ := live m d q
    obtain ⟨d2, h2⟩ := live k e' q'
    exact c.inj m k d1 d2 h1 h2 z
  · by_cases y : a = A.loc n
    · exact absurd (by rw [y]; exact oc) (c.apart a z)
    · rw [upd_ne y]; exact c.phs a z
/-! ### d[k] = e -/
def dctL (S : Store) (n : Nat) : Option (Bool × List (D × D)) := match S[n]? with
  | some (some (.dct f ds)) => some (f, ds)
  | _ => none
theorem dctL_eq {S : Store} {n : Nat} {f : Bool} {ds : List (D × D)} (h : dctL S n = some (f, ds)) : S[n]? = some (some (.dct f ds)) := by
  unfold dctL at h
  split at h
  · rename_i e; cases h; exact e
  · cases h
def setD (ρ : Rho) (S : Store) (c j d : D) : ResS := match c, keyOf (vw S j) with
  | .loc n, some k => (match dctL S n with
    | some (f, ds) => if plain d && decide (ds.length < LINE) then .nx ρ (S.set n (some (.dct f (putD ds k (cool d))))) else .bad
    | none => .bad)
  | _, _ => .bad
def setAt3 (ρ : Rho) (S : Store) (c j d : D) : ResS := match setAt ρ S c j d with
  | .bad => setD ρ S c j d
  | r => r
def mSetIx3 (m o i : ME) : MS := fun ρ S => bindE (m ρ S) ρ fun d S1 => bindE (o ρ S1) ρ fun c S2 => bindE (i ρ S2) ρ fun j S3 => setAt3 ρ S3 c j d
def rSetD : V → V → V → Hp → (Hp → Prop) → Prop := fun o i v H Q => ∃ a H4, o = .ref a ∧ DPut H a i v H4 ∧ Q H4
theorem set_dict {X : Cx} (hu : X.A.units + 1 < cLine) : PSet X rSetD := by
  intro pins s σ H o i v ov iv u Q I ro ri rv h
  obtain ⟨a, H4, rfl, g, q⟩ := h
  obtain rfl : ov = Value.ref a := ro
  exact d_setItem hu I g ri rv fun s3 I3 => ⟨H4, I3, q⟩
theorem PSet.or {X : Cx} {t t' : TSet} (h : PSet X t) (h' : PSet X t') : PSet X (fun o i v H Q => t o i v H Q ∨ t' o i v H Q) := by
  intro pins s σ H o i v ov iv u Q I ro ri rv q
  rcases q with q | q
  · exact h pins s σ H o i v ov iv u Q I ro ri rv q
  · exact h' pins s σ H o i v ov iv u Q I ro ri rv q
section
variable {s : Sit} {ρ : Rho} {S : Store} {A : Wy} {σ : L2.St} {H : Hp}
theorem setD_go {v w x : V} {c j d : D} {D : Ends} (cn : Cn s ρ S A σ H) (r1 : RpS s.X.K s.Z A S H w c) (r2 : RpS s.X.K s.Z A S H x j) (r : RpS s.X.K s.Z A S H v d) (q : SOut s A S H D (setD ρ S c j d)) :
    rSetD w x v H fun H1 => D.nx σ H1 := by
  unfold setD at q
  split at q
  case h_2 => exact q.elim
  rename_i n k hk
  split at q
  case h_2 => exact q.elim
  rename_i f ds hc
  split at q
  case isFalse => exact q.elim
  rename_i hp
  simp only [Bool.and_eq_true, decide_eq_true_eq] at hp
  rw [loc_of r1, key_val cn.cells r2 hk]
  cases cn.cells.at_ n _ (dctL_eq hc) with
  | dct h1 h2 =>
    rename_i kvs
    have ow := cn.cells.owns
    have own : Own A S (A.loc n) := .inl ⟨n, _, dctL_eq hc, rfl⟩
    have e : Ext (Own A S) H (upd H (A.loc n) (.dK (putK kvs k v))) := fun a o q z => by
      rw [upd_ne (fun y => z (by rw [y]; exact own))]
      exact q
    have p := Pst.mutC (u := .dK (putK kvs k v)) (d1 := .dct f (putD ds k (cool d))) cn.cells (dctL_eq hc) (.dct upd_same ((h2.put (r.plain hp.1).cool).ext ow e (.refl _ _)))
    exact ⟨_, _, rfl, .k h1 (by rw [h2.length, line_eq]; exact hp.2), q σ _ A (p.pss cn.cells) (cn.step p)⟩
variable {o i e : Expr} {mo mi m : ME} {tpos pos : Pos}
theorem s_setIx3 (hu : s.X.A.units + 65 < cLine) (he : SE s e m) (ho : SE s o mo) (hi : SE s i mi)
    (ha : ∀ v, assign (.Subscript o i tpos) s.X.env v = (do
      let ov ← holding [v] (eval o s.X.env)
      let iv ← holding [v, ov] (eval i s.X.env)
      standAt tpos
      holding [v, ov, iv] (setItem ov iv v)
      release [v, ov, iv] []) := by intro _; rfl)
    (hs : swapsWithSole [.Subscript o i tpos] e pos.line s.X.env = pure false := by rfl) (hw : swappedStores [.Subscript o i tpos] e s.X.env = pure none := by rfl)
    (h1 : (assignEach [.Subscript o i tpos] s.X.env).map (·.2) = [assign (.Subscript o i tpos) s.X.env] := by rfl) : SS s (.Assign [.Subscript o i tpos] e pos) (mSetIx3 m mo mi) :=
  PS.weak (ps_asg he (pg_sub ho hi (Dv.PSet.or set_list (set_dict (by omega))) ha) hs hw h1) fun D σ H q => by
    obtain ⟨ρ, S, A, c, q⟩ := q
    refine tD_bindS c q fun d S1 v H1 _ p1 c1 r1 _ q1 => ?_
    refine tD_bindS c1 q1 fun cc S2 w H2 _ p2 c2 r2 _ q2 => ?_
    refine tD_bindS c2 q2 fun j S3 x H3 _ p3 c3 r3 _ q3 => ?_
    have ra := r2.step c2.cells p3
    have rb := (r1.step c1.cells p2).step c2.cells p3
    unfold setAt3 at q3
    cases e3 : setAt ρ S3 cc j d with
    | bad => rw [e3] at q3; exact .inr (setD_go c3 ra r3 rb q3)
    | nx ρ1 S4 => rw [e3] at q3; exact .inl (setAt_go c3 ra r3 rb (by rw [e3]; exact q3))
    | bk ρ1 S4 => rw [e3] at q3; exact .inl (setAt_go c3 ra r3 rb (by rw [e3]; exact q3))
    | ct ρ1 S4 => rw [e3] at q3; exact .inl (setAt_go c3 ra r3 rb (by rw [e3]; exact q3))
    | rt d1 S4 => rw [e3] at q3; exact .inl (setAt_go c3 ra r3 rb (by rw [e3]; exact q3))
    | exc x1 fs ρ1 S4 => rw [e3] at q3; exact .inl (setAt_go c3 ra r3 rb (by rw [e3]; exact q3))
end
/-! ### d.get(k) -/
def mDGet (o m : ME) : ME := fun ρ S => (o ρ S).bind fun d S1 => if (dctOf (vw S1 d)).isSome then (m ρ S1).bind fun e S2 => (match dctOf (vw S2 d), keyOf (vw S2 e) with
  | some ds, some k => .ok (match valD ds k with
    | some x => cool x
    | none => .non) S2
  | _, _ => .bad) else .bad
section
variable {s : Sit} {o e : Expr} {mo m : ME} {apos cpos : Pos}
theorem se_dget (hu : s.X.A.units + 65 < cLine) (ho : SE s o mo) (he : SE s e m) (hm : M1 s.X o "get" apos e cpos) : SE s (.Call (.Attribute o "get" apos) [e] [] cpos) (mDGet mo m) := by
  refine PE.weak (pe_dget1 (by omega) ho he hm) fun σ H Q q => ?_
  obtain ⟨ρ, S, A, c, q⟩ := q
  refine tD_bind c q fun d S1 v H1 _ p1 c1 r1 _ q1 => ?_
  split at q1
  case isFalse => exact q1.elim
  rename_i hd
  obtain ⟨ds0, hd⟩ := Option.isSome_iff_exists.mp hd
  obtain ⟨a, kvs, rfl, h3, h4⟩ := dict_val c1.cells r1 hd
  refine ⟨a, rfl, .inl ⟨kvs, .inl h3⟩, ?_⟩
  refine tD_bind c1 (q1.on c.cells p1) fun y S2 w H2 _ p2 c2 r2 _ q2 => ?_
  have q3 := q2.on c1.cells p2
  cases e1 : dctOf (vw S2 d) with
  | none => rw [e1] at q3; exact q3.elim
  | some ds =>
    cases e2 : keyOf (vw S2 y) with
    | none => rw [e1, e2] at q3; exact q3.elim
    | some k =>
      rw [e1, e2] at q3
      dsimp only at q3
      obtain ⟨a2, kvs2, ha, h5, h6⟩ := dict_val c2.cells (r1.step c1.cells p2) e1
      cases ha
      rw [key_val c2.cells r2 e2]
      obtain ⟨ov, g, hs, hv⟩ := get_of (s := s) (k := k) h5 h6
      refine ⟨ov, g, ?_⟩
      cases e4 : valD ds k with
      | none =>
        rw [e4] at q3 hs
        cases ov with
        | some _ => cases hs
        | none => exact q3 _ H2 (.refl c2.cells) (.inr (.inl .non)) (.old rfl)
      | some x =>
        rw [e4] at q3
        obtain ⟨z, rfl, rz⟩ := hv x e4
        exact q3 _ H2 (.refl c2.cells) (.inr (.inl rz.cool)) (.old (isNew_cool x))
end
end Dv

set_option maxHeartbeats 4000000
/-! {k: v, ..} -/
namespace Dv
open PySem PySem.Spec PyProof.Rows L2
set_option autoImplicit false
def mPairs : List (ME × ME) → Rho → Store → Res (List (D × D))
  | [], _, S => .ok [] S
  | (mk, mv) :: r, ρ, S => (mk ρ S).bind fun d S1 => (mv ρ S1).bind fun e S2 => match keyOf d with
    | some _ => if plain e then (match mPairs r ρ S2 with
      | .ok ds S3 => .ok ((d, cool e) :: ds) S3
      | _ => .bad) else .bad
    | none => .bad
def mDisp (es : List (ME × ME)) : ME := fun ρ S => match mPairs es ρ S with
  | .ok ds S' => if ds.length ≤ 15 then .ok (.dct true (mergeD [] ds)) S' else .bad
  | _ => .bad
def trsOf (s : Sit) (es : List (ME × ME)) : List (TE × TE) := es.map fun e => (tD s e.1, tD s e.2)
section
variable {s : Sit} {ρ : Rho} {σ : L2.St}
theorem RpKV.step {K : PySem.W.Frag} {A : Wy} {S S1 : Store} {H H1 : Hp} {kvs : List (Key × V)} {ds : List (D × D)} (c : Cells K A S H) (p : Pst K A S H S1 H1) (h : RpKV K H (Own A S) kvs ds) : RpKV K H1 (Own A S1) kvs ds := by
  rw [p.own]
  exact h.ext c.owns p.ext.own (.refl _ _)
theorem pairs_ok : ∀ (es : List (ME × ME)) {A : Wy} {S S' : Store} {H : Hp} {ds : List (D × D)} {R : List (V × V) → Hp → Prop}, Cn s ρ S A σ H → mPairs es ρ S = .ok ds S' →
    (∀ kvs H', Pst s.X.K A S H S' H' → RpKV s.X.K H' (Own A S') kvs ds → R (kvs.map fun kv => (kV kv.1, kv.2)) H') → tPairs (trsOf s es) σ H R
  | [], A, S, S', H, ds, R, c, e, q => by
    cases e
    exact q [] H (.refl c.cells) .nil
  | (mk, mv) :: r, A, S, S', H, ds, R, c, e, q => by
    unfold mPairs at e
    refine ⟨ρ, S, A, c, ?_⟩
    cases e1 : mk ρ S with
    | exc _ _ _ => rw [e1] at e; cases e
    | bad => rw [e1] at e; cases e
    | ok d S1 =>
      rw [e1] at e
      dsimp only [bind_ok] at e
      show EOut s A S H σ _ (mk ρ S)
      rw [e1]
      intro x H1 p1 r1 _
      have c1 := c.step p1
      refine ⟨ρ, S1, A, c1, ?_⟩
      cases e2 : mv ρ S1 with
      | exc _ _ _ => rw [e2] at e; cases e
      | bad => rw [e2] at e; cases e
      | ok y S2 =>
        rw [e2] at e
        dsimp only [bind_ok] at e
        show EOut s A S1 H1 σ _ (mv ρ S1)
        rw [e2]
        intro w H2 p2 r2 _
        have c2 := c1.step p2
        cases e3 : keyOf d with
        | none => rw [e3] at e; cases e
        | some k =>
          rw [e3] at e
          dsimp only at e
          split at e
          case isFalse => cases e
          rename_i hp
          cases e4 : mPairs r ρ S2 with
          | exc _ _ _ => rw [e4] at e; cases e
          | bad => rw [e4] at e; cases e
          | ok ds' S3 =>
            rw [e4] at e
            cases e
            have hd : d = keyD k := by
              cases d <;> first | (cases e3; rfl) | cases e3
            have hx : x = kV k := by
              refine key_val (e := d) c1.cells r1 ?_
              rw [hd]
              cases k <;> rfl
            subst hx
            refine pairs_ok r c2 e4 fun kvs H3 p3 rk => ?_
            have rw2 := ((r2.plain hp).cool).step c2.cells p3
            rw [hd] at q
            exact q ((k, w) :: kvs) H3 ((p1.trans p2).trans p3) (.cons rw2 rk)
theorem disp_red {es : List (ME × ME)} {H : Hp} {Q : VK} (q : tD s (mDisp es) σ H Q) : tDisp (trsOf s es) σ H Q := by
  obtain ⟨ρ, S, A, c, q⟩ := q
  unfold mDisp at q
  cases em : mPairs es ρ S with
  | exc _ _ _ => rw [em] at q; exact q.elim
  | bad => rw [em] at q; exact q.elim
  | ok ds S' =>
    rw [em] at q
    dsimp only at q
    split at q
    case isFalse => exact q.elim
    rename_i hl
    intro p hp
    have sm : Same H (upd H p (.dK [])) := same_upd hp
    have c0 : Cn s ρ S (A.more p) σ (upd H p (.dK [])) := more_cn (d := .dct true []) c (.of_same c.cells sm) hp (.dct upd_same .nil) fun n e h => (c.cells.at_ n e h).ext c.cells.owns (.of_same sm) (Grow.one hp) fun o z => sm _ _ z
    refine pairs_ok es c0 em fun kvs H2 p2 rk => ?_
    have np : ¬ OwC (A.more p) S p := c0.cells.apart p (.inr rfl)
    have h2p : H2 p = some (.dK []) := p2.ext p _ upd_same np
    refine ⟨h2p, kvs, rfl, by rw [rk.length]; exact hl, ?_⟩
    have c2 := p2.cells
    have np2 : ¬ OwC (A.more p) S' p := c2.apart p (.inr rfl)
    have nA : ¬ A.ph p := fun z => by
      obtain ⟨o, w, _⟩ := c.cells.phs p z
      rw [hp] at w; cases w
    have nO : ¬ Own A S' p := by
      rintro (z | z)
      · exact np2 z
      · exact nA z
    have e5 : Ext (Own (A.more p) S') H2 (upd H2 p (.dK (mergeK [] kvs))) := fun a o h n => by
      rw [upd_ne (fun z => n (by rw [z]; exact .inr (.inr rfl)))]
      exact h
    have rk3 : RpKV s.X.K (upd H2 p (.dK (mergeK [] kvs))) (fun x => Own A S' x ∨ x = p) (mergeK [] kvs) (mergeD [] ds) := by
      rw [← more_own]
      exact (rk.merge .nil).ext c2.owns e5 (.refl _ _)
    have drop : ∀ x, Own A S' x → Own (A.more p) S' x := fun x z => by rw [more_own]; exact .inl z
    have cell3 : ∀ (n : Nat) (e : D), S'[n]? = some (some e) → Cell s.X.K (upd H2 p (.dK (mergeK [] kvs))) (fun x => Own A S' x ∨ x = p) (A.loc n) e := fun n e h => by
      rw [← more_own]
      refine (c2.at_ n e h).ext c2.owns e5 (.refl _ _) fun o w => ?_
      have hne : A.loc n ≠ p := fun z => np2 ⟨n, e, h, z⟩
      show upd H2 p _ (A.loc n) = some o
      rw [upd_ne hne]; exact w
    have ow3 : Owns (upd H2 p (.dK (mergeK [] kvs))) (fun x => Own A S' x ∨ x = p) := fun a z => by
      rcases z with z | z
      · have ha : a ≠ p := fun y => nO (by rw [← y]; exact z)
        rw [upd_ne ha]
        exact c2.owns a (drop a z)
      · rw [z]; exact ⟨_, upd_same, rfl⟩
    refine q (.ref p) _ ⟨fun a o h n => ?_, p2.lives, p2.len, ⟨fun n d h => ?_, c2.inj, fun a z => ?_, fun a z => c2.apart a (.inl z)⟩⟩ (.inr (.inl (.dct nO upd_same ?_))) fun _ => ⟨p, rfl, hp, .dct upd_same rk3, cell3⟩
    · have ha : a ≠ p := ne_of_none h hp
      rw [upd_ne ha]
      exact p2.ext a o (sm _ _ h) n
    · exact (cell3 n d h).own ow3 fun x z => .inl z
    · have ha : a ≠ p := fun y => nA (by rw [← y]; exact z)
      rw [upd_ne ha]
      exact c2.phs a (.inl z)
    · exact rk3.ext ow3 (.refl _ _) fun x z => .inl (.inl z)
theorem se_disp {pos : Pos} {keys : List (Option Expr)} {values : List Expr} {es : List (ME × ME)} (h : PPs s.X pos keys values (trsOf s es)) (hall : keys.all (·.isSome) = true := by rfl) (hl : keys.length = values.length := by rfl) (h0 : keys ≠ [] := by simp) (h15 : keys.length ≤ 15 := by decide) :
    SE s (.Dict keys values pos) (mDisp es) := PE.weak (pe_disp h hall hl h0 h15) fun _ _ _ q => disp_red q
theorem pp_nil {pos : Pos} : PPs s.X pos [] [] (trsOf s []) := pps_nil
theorem pp_cons {pos : Pos} {k v : Expr} {ks : List (Option Expr)} {vs : List Expr} {mk mv : ME} {es : List (ME × ME)} (hk : SE s k mk) (hv : SE s v mv) (hr : PPs s.X pos ks vs (trsOf s es)) : PPs s.X pos (some k :: ks) (v :: vs) (trsOf s ((mk, mv) :: es)) := pps_cons hk hv hr
end
end Dv

set_option maxHeartbeats 4000000
/-! within a clause's suite -/
namespace Dv
open PySem PySem.Spec PyProof.Rows L2
set_option autoImplicit false
theorem su_guards {G : Gd} {j : Nat} {s : Sit} {e : Env} {m : Option Value} (g : Gs G j s) : ((s.X.A.deeper e).mark m).guards = some [] := g.guards
theorem su_hu {k : Nat} {A : Around} {m : Option Value} (hr : Room k A) : (A.mark m).units + 65 < cLine := by
  have h := hr.un
  have e : (A.mark m).units = A.units := rfl
  rw [e]
  omega
end Dv

set_option maxHeartbeats 4000000
/-! zip of a list and a tuple: over any two walks of sequences -/
namespace ZMx
open PySem PySem.Spec PyProof.Rows L2
set_option autoImplicit false
/-- a walk J over what L tells -/
structure Wk (J : Heap → Addr → Addr → Nat → Prop) (L : Heap → Addr → Array Value → Prop) : Prop where
  item : ∀ {prog : Program} {w : World} {A : Around} {E : Value → Shared → Prop} {s : Shared} {it l : Addr} {n : Nat} {us : Array Value} {u : Value} {Q : Value → Shared → Prop}, J s.heap it l n → L s.heap l us → us[n]? = some u →
    (∀ g, J g it l (n + 1) → Heap.SameBut it s.heap g → Q u { s with heap := g }) → wpAny (model prog w) A (Builtin.SmallTypes.nextOf (.ref it)) Q E s
  stop : ∀ {prog : Program} {w : World} {A : Around} {E : Value → Shared → Prop} {s : Shared} {it l : Addr} {n : Nat} {us : Array Value} {Q : Value → Shared → Prop}, A.handled = none → J s.heap it l n → L s.heap l us → us[n]? = none →
    (∀ g e, Heap.ExtBut it s.heap g → (∃ o, g.get? e = some o ∧ o.cls = .type "StopIteration") → E (.ref e) { s with heap := g }) → wpAny (model prog w) A (Builtin.SmallTypes.nextOf (.ref it)) Q E s
  far : ∀ {h g : Heap} {it l c : Addr} {n : Nat}, J h it l n → Heap.ExtBut c h g → it ≠ c → J g it l n
  farL : ∀ {h g : Heap} {l c : Addr} {us : Array Value}, L h l us → Heap.ExtBut c h g → l ≠ c → L g l us
  near : ∀ {h g : Heap} {it l : Addr} {n : Nat}, J h it l n → (∀ o, h.get? it = some o → g.get? it = some o) → J g it l n
  live : ∀ {h : Heap} {it l : Addr} {n : Nat}, J h it l n → ∃ o fs, h.get? it = some o ∧ o.data = .fields fs
theorem wkL : Wk Heap.IsListIter Heap.IsList :=
  ⟨fun a b c d => wpAny_nextOf_list_item a b c d, fun a b c d e => wpAny_nextOf_list_end a b c d e, fun a b c => a.extBut b c, fun a b c => a.extBut b c, fun a b => a.at b, fun ⟨o, h1, _, h2⟩ => ⟨o, _, h1, h2⟩⟩
theorem wkT : Wk Heap.IsTupleIter Heap.IsTuple :=
  ⟨fun a b c d => RZ.nextOf_tuple_item a b c d, fun a b c d e => RZ.nextOf_tuple_end a b c d e, fun a b c => a.extBut b c, fun a b c => a.extBut b c, fun a b => a.at b, fun ⟨o, h1, _, h2⟩ => ⟨o, _, h1, h2⟩⟩
end ZMx
namespace ZMx
open PySem PySem.Spec PyProof.Rows L2
section
variable {prog : Program} {w : World} {A : Around} {E : Value → Shared → Prop} {s : Shared}
variable {J1 J2 : Heap → Addr → Addr → Nat → Prop} {L1 L2 : Heap → Addr → Array Value → Prop} {zz ti tt ia ib la lb : Addr} {na nb : Nat} {ua ub : Array Value} {u v p q : Value}
/-- what a zip object over two walks is, at rest -/
structure Rest (J1 J2 : Heap → Addr → Addr → Nat → Prop) (h : Heap) (zz ti tt ia ib la lb : Addr) (na nb : Nat) (p q : Value) : Prop where
  z : IsZip h zz ti tt .none
  i : IsPair h ti (.ref ia) (.ref ib)
  o : IsPair h tt p q
  a : J1 h ia la na
  b : J2 h ib lb nb
/-- both have an item -/
theorem step (W1 : Wk J1 L1) (W2 : Wk J2 L2) (D : ZipApart zz ti tt ia ib la lb) (R : Rest J1 J2 s.heap zz ti tt ia ib la lb na nb p q) (sa : L1 s.heap la ua) (sb : L2 s.heap lb ub) (ea : ua[na]? = some u) (eb : ub[nb]? = some v) {Q : Value → Shared → Prop}
    (go : ∀ g, IsZip g zz ti tt (rawInt s.heap.objs.size) → IsPair g tt u v → J1 g ia la (na + 1) → J2 g ib lb (nb + 1) → IsPair g s.heap.objs.size u v → g.objs.size = s.heap.objs.size + 1 →
      (∀ c o, c ≠ zz → c ≠ tt → c ≠ ia → c ≠ ib → s.heap.get? c = some o → g.get? c = some o) → Q (.ref s.heap.objs.size) { s with heap := g }) :
    wpAny (model prog w) A (Builtin.«zip.__next__» ⟨[.ref zz], []⟩) (fun f t => ∃ r, f = .done (.ret r) ∧ Q r t) E s := by
  have Rz := R.z
  have Ro := R.o
  show wpAny _ _ (field (.ref zz) 2 >>= _) _ _ _
  refine wpAny_bind (wpAny_field Rz rfl (x := .bool false) rfl ?_)
  show wpAny _ _ (field (.ref zz) 3 >>= _) _ _ _
  refine wpAny_bind (wpAny_field Rz rfl (x := .ref ti) rfl ?_)
  refine wpAny_bind (wpAny_seqItems R.i rfl ?_)
  show wpAny _ _ (Builtin.SmallTypes.ownedTupleIsFree (.ref zz) >>= _) _ _ _
  refine wpAny_bind ?_
  unfold Builtin.SmallTypes.ownedTupleIsFree
  refine wpAny_bind (wpAny_field Rz rfl (x := .none) rfl (wpAny_pure ?_))
  simp only [if_true]
  refine wpAny_bind (wpAny_rule ?_)
  refine wpAny_bind (wpAny_field Rz rfl (x := .ref tt) rfl ?_)
  refine wpAny_bind (wpAny_setField_rec Rz (by simp) fun g1 y1 b1 => ?_)
  replace y1 : IsZip g1 zz ti tt .ellipsis := y1
  refine wpAny_bind ?_
  simp only [List.zipIdx_cons, List.zipIdx_nil, List.forIn_cons, List.forIn_nil]
  refine wpAny_bind (wpAny_bind (wpAny_onRaise ?_))
  show wpAny _ _ (Builtin.SmallTypes.nextOf (.ref ia) >>= _) _ _ _
  refine wpAny_bind (W1.item (W1.far R.a b1.extBut D.i1z) (W1.farL sa b1.extBut D.l1z) ea fun g2 a2 b2 => wpAny_pure ?_)
  have o2 : IsPair g2 tt p q := b2.extBut _ _ D.TOi1 (b1.extBut _ _ D.TOz Ro)
  refine wpAny_bind (wpAny_seqItems o2 rfl ?_)
  refine wpAny_bind (wpAny_updateSeq_pair o2 fun g3 o3 b3 => ?_)
  replace o3 : IsPair g3 tt u q := o3
  refine wpAny_bind (wpAny_letGo (wpAny_pure ?_))
  refine wpAny_bind (wpAny_bind (wpAny_onRaise ?_))
  show wpAny _ _ (Builtin.SmallTypes.nextOf (.ref ib) >>= _) _ _ _
  have jb3 : J2 g3 ib lb nb := W2.far (W2.far (W2.far R.b b1.extBut D.i2z) b2.extBut D.i12.symm) b3.extBut D.TOi2.symm
  have sb3 : L2 g3 lb ub := W2.farL (W2.farL (W2.farL sb b1.extBut D.l2z) b2.extBut D.l2i1) b3.extBut D.l2TO
  refine wpAny_bind (W2.item jb3 sb3 eb fun g4 c4 b4 => wpAny_pure ?_)
  have o4 : IsPair g4 tt u q := b4.extBut _ _ D.TOi2 o3
  refine wpAny_bind (wpAny_seqItems o4 rfl ?_)
  refine wpAny_bind (wpAny_updateSeq_pair o4 fun g5 o5 b5 => ?_)
  replace o5 : IsPair g5 tt u v := o5
  refine wpAny_bind (wpAny_letGo (wpAny_pure (wpAny_pure ?_)))
  refine wpAny_bind (wpAny_seqItems o5 rfl ?_)
  refine wpAny_bind (wpAny_newTuple ?_)
  have size5 : g5.objs.size = s.heap.objs.size := by rw [b5.1, b4.1, b3.1, b2.1, b1.1]
  have y5 : IsZip g5 zz ti tt .ellipsis := b5.extBut _ _ D.TOz.symm (b4.extBut _ _ D.i2z.symm (b3.extBut _ _ D.TOz.symm (b2.extBut _ _ D.i1z.symm y1)))
  have keep5 : ∀ c o, c ≠ zz → c ≠ tt → c ≠ ia → c ≠ ib → s.heap.get? c = some o → g5.get? c = some o := fun c o n1 n2 n3 n4 e =>
    b5.extBut _ _ n2 (b4.extBut _ _ n4 (b3.extBut _ _ n2 (b2.extBut _ _ n3 (b1.extBut _ _ n1 e))))
  have ja5 : J1 g5 ia la (na + 1) := W1.far (W1.far (W1.far a2 b3.extBut D.TOi1.symm) b4.extBut D.i12) b5.extBut D.TOi1.symm
  have jb5 : J2 g5 ib lb (nb + 1) := W2.far c4 b5.extBut D.TOi2.symm
  have zlt : zz < g5.objs.size := Heap.lt_size y5
  show wpAny _ _ (Builtin.SmallTypes.ownedTupleHandOut (.ref zz) (.ref g5.objs.size) >>= _) _ _ _
  refine wpAny_bind ?_
  unfold Builtin.SmallTypes.ownedTupleHandOut
  have y6 : IsZip (g5.push { cls := .type "tuple", data := .seq #[u, v] }) zz ti tt .ellipsis := Heap.get?_push_of_some _ y5
  refine wpAny_bind (wpAny_setField_rec y6 (by simp) fun g7 y7 b7 => ?_)
  replace y7 : IsZip g7 zz ti tt (rawInt g5.objs.size) := y7
  refine wpAny_setField_rec y7 (by simp) fun g8 y8 b8 => ?_
  replace y8 : IsZip g8 zz ti tt (rawInt g5.objs.size) := y8
  have rise : ∀ c o, c ≠ zz → g5.get? c = some o → g8.get? c = some o := fun c o n e => b8.extBut _ _ n (b7.extBut _ _ n (Heap.get?_push_of_some _ e))
  have t8 : IsPair g8 g5.objs.size u v := b8.extBut _ _ (Nat.ne_of_gt zlt) (b7.extBut _ _ (Nat.ne_of_gt zlt) (Heap.get?_push_size _ rfl))
  have size8 : g8.objs.size = g5.objs.size + 1 := by rw [b8.1, b7.1, Heap.size_push]
  rw [size5] at y8 t8 size8
  refine wpAny_pure ⟨_, rfl, ?_⟩
  show Q (.ref g5.objs.size) _
  rw [size5]
  exact go g8 y8 (rise _ _ D.TOz o5) (W1.near ja5 fun o e => rise _ o D.i1z e) (W2.near jb5 fun o e => rise _ o D.i2z e) t8 size8 fun c o n1 n2 n3 n4 e => rise c o n1 (keep5 c o n1 n2 n3 n4 e)
/-- one of both has none -/
theorem halt (W1 : Wk J1 L1) (W2 : Wk J2 L2) (hd : A.handled = none) (D : ZipApart zz ti tt ia ib la lb) (R : Rest J1 J2 s.heap zz ti tt ia ib la lb na nb p q) (sa : L1 s.heap la ua) (sb : L2 s.heap lb ub) (hend : ua[na]? = none ∨ ub[nb]? = none) {Q : Fin → Shared → Prop}
    (go : ∀ g e, (∀ c o, c ≠ zz → c ≠ tt → c ≠ ia → c ≠ ib → s.heap.get? c = some o → g.get? c = some o) → (∃ o, g.get? e = some o ∧ o.cls = .type "StopIteration") → E (.ref e) { s with heap := g }) :
    wpAny (model prog w) A (Builtin.«zip.__next__» ⟨[.ref zz], []⟩) Q E s := by
  have Rz := R.z
  have Ro := R.o
  show wpAny _ _ (field (.ref zz) 2 >>= _) _ _ _
  refine wpAny_bind (wpAny_field Rz rfl (x := .bool false) rfl ?_)
  show wpAny _ _ (field (.ref zz) 3 >>= _) _ _ _
  refine wpAny_bind (wpAny_field Rz rfl (x := .ref ti) rfl ?_)
  refine wpAny_bind (wpAny_seqItems R.i rfl ?_)
  show wpAny _ _ (Builtin.SmallTypes.ownedTupleIsFree (.ref zz) >>= _) _ _ _
  refine wpAny_bind ?_
  unfold Builtin.SmallTypes.ownedTupleIsFree
  refine wpAny_bind (wpAny_field Rz rfl (x := .none) rfl (wpAny_pure ?_))
  simp only [if_true]
  refine wpAny_bind (wpAny_rule ?_)
  refine wpAny_bind (wpAny_field Rz rfl (x := .ref tt) rfl ?_)
  refine wpAny_bind (wpAny_setField_rec Rz (by simp) fun g1 y1 b1 => ?_)
  replace y1 : IsZip g1 zz ti tt .ellipsis := y1
  refine wpAny_bind ?_
  simp only [List.zipIdx_cons, List.zipIdx_nil, List.forIn_cons, List.forIn_nil]
  refine wpAny_bind (wpAny_bind (wpAny_onRaise ?_))
  show wpAny _ _ (Builtin.SmallTypes.nextOf (.ref ia) >>= _) _ _ _
  have ja1 := W1.far R.a b1.extBut D.i1z
  have sa1 := W1.farL sa b1.extBut D.l1z
  cases ea : ua[na]? with
  | none =>
    refine wpAny_bind (W1.stop hd ja1 sa1 ea fun g2 e b2 he => ?_)
    obtain ⟨oe, w1, w2⟩ := he
    have y2 : IsZip g2 zz ti tt .ellipsis := b2 _ _ D.i1z.symm y1
    have ne : e ≠ zz := fun t => by subst t; rw [y2] at w1; cases w1; simp at w2
    refine wpAny_setField_rec y2 (by simp) fun g3 _ b3 => go g3 e (fun c o n1 _ n3 _ t => b3.extBut _ _ n1 (b2 _ _ n3 (b1.extBut _ _ n1 t))) ⟨oe, b3.extBut _ _ ne w1, w2⟩
  | some u =>
    have eb : ub[nb]? = none := hend.resolve_left (by rw [ea]; simp)
    refine wpAny_bind (W1.item ja1 sa1 ea fun g2 a2 b2 => wpAny_pure ?_)
    have o2 : IsPair g2 tt p q := b2.extBut _ _ D.TOi1 (b1.extBut _ _ D.TOz Ro)
    refine wpAny_bind (wpAny_seqItems o2 rfl ?_)
    refine wpAny_bind (wpAny_updateSeq_pair o2 fun g3 o3 b3 => ?_)
    refine wpAny_bind (wpAny_letGo (wpAny_pure ?_))
    refine wpAny_bind (wpAny_bind (wpAny_onRaise ?_))
    show wpAny _ _ (Builtin.SmallTypes.nextOf (.ref ib) >>= _) _ _ _
    have jb3 : J2 g3 ib lb nb := W2.far (W2.far (W2.far R.b b1.extBut D.i2z) b2.extBut D.i12.symm) b3.extBut D.TOi2.symm
    have sb3 : L2 g3 lb ub := W2.farL (W2.farL (W2.farL sb b1.extBut D.l2z) b2.extBut D.l2i1) b3.extBut D.l2TO
    refine wpAny_bind (W2.stop hd jb3 sb3 eb fun g4 e b4 he => ?_)
    obtain ⟨oe, w1, w2⟩ := he
    have y4 : IsZip g4 zz ti tt .ellipsis := b4 _ _ D.i2z.symm (b3.extBut _ _ D.TOz.symm (b2.extBut _ _ D.i1z.symm y1))
    have ne : e ≠ zz := fun t => by subst t; rw [y4] at w1; cases w1; simp at w2
    refine wpAny_setField_rec y4 (by simp) fun g5 _ b5 => go g5 e (fun c o n1 n2 n3 n4 t => b5.extBut _ _ n1 (b4 _ _ n4 (b3.extBut _ _ n2 (b2.extBut _ _ n3 (b1.extBut _ _ n1 t))))) ⟨oe, b5.extBut _ _ ne w1, w2⟩
theorem next_item (W1 : Wk J1 L1) (W2 : Wk J2 L2) (D : ZipApart zz ti tt ia ib la lb) (R : Rest J1 J2 s.heap zz ti tt ia ib la lb na nb p q) (sa : L1 s.heap la ua) (sb : L2 s.heap lb ub) (ea : ua[na]? = some u) (eb : ub[nb]? = some v) {Q : Option Value → Shared → Prop}
    (go : ∀ g, IsZip g zz ti tt (rawInt s.heap.objs.size) → IsPair g tt u v → J1 g ia la (na + 1) → J2 g ib lb (nb + 1) → IsPair g s.heap.objs.size u v → g.objs.size = s.heap.objs.size + 1 →
      (∀ c o, c ≠ zz → c ≠ tt → c ≠ ia → c ≠ ib → s.heap.get? c = some o → g.get? c = some o) → Q (some (.ref s.heap.objs.size)) { s with heap := g }) : wpAny (model prog w) A (pyNext (.ref zz)) Q E s := by
  have ty : s.TypeIs (.ref zz) "zip" := ⟨_, R.z, rfl⟩
  unfold pyNext
  exact wpAny_bind (wpAny_attempt (wpAny_callSpecial?_slot (name := Str.ofString "__next__") ty PySem.F.slot_zip_next (wpAny_call_entry PySem.F.slot_zip_next ty PySem.F.entry_zip_next
    (step W1 W2 D R sa sb ea eb fun g c1 c2 c3 c4 c5 c6 c7 => wpAny_pure (go g c1 c2 c3 c4 c5 c6 c7)) (PySem.F.args_zip_next_1 _))))
theorem next_halt (W1 : Wk J1 L1) (W2 : Wk J2 L2) (hd : A.handled = none) (D : ZipApart zz ti tt ia ib la lb) (R : Rest J1 J2 s.heap zz ti tt ia ib la lb na nb p q) (sa : L1 s.heap la ua) (sb : L2 s.heap lb ub) (hend : ua[na]? = none ∨ ub[nb]? = none) {Q : Option Value → Shared → Prop}
    (go : ∀ g, (∀ c o, c ≠ zz → c ≠ tt → c ≠ ia → c ≠ ib → s.heap.get? c = some o → g.get? c = some o) → Q none { s with heap := g }) : wpAny (model prog w) A (pyNext (.ref zz)) Q E s := by
  have ty : s.TypeIs (.ref zz) "zip" := ⟨_, R.z, rfl⟩
  unfold pyNext
  refine wpAny_bind (wpAny_attempt (wpAny_callSpecial?_slot (name := Str.ofString "__next__") ty PySem.F.slot_zip_next (wpAny_call_entry PySem.F.slot_zip_next ty PySem.F.entry_zip_next
    (halt (A := A.in1) W1 W2 hd D R sa sb hend fun g e keep he => ?_) (PySem.F.args_zip_next_1 _))))
  obtain ⟨o, w1, w2⟩ := he
  refine wpAny_bind (wpAny_isInstance (T := "StopIteration") (b := true) ⟨o, w1, w2⟩ isSubtype_stop ?_)
  exact wpAny_pure (go _ keep)
end
end ZMx
namespace ZMx
open PySem PySem.Spec PyProof.Rows L2
/-- a list's items beside a tuple's -/
def ItzM (K : PySem.W.Frag) (a b : Addr) : It :=
  ⟨fun i H => ∃ (xs ys : List V) (x y : V), SqL K H a xs ∧ SqT K H b ys ∧ xs[i]? = some x ∧ ys[i]? = some y,
    fun i H v H' => ∃ T x y, v = .ref T ∧ H T = none ∧ H' = upd H T (.tup [x, y]) ∧ (∀ xs, SqL K H a xs → xs[i]? = some x) ∧ ∀ ys, SqT K H b ys → ys[i]? = some y,
    fun i H => ∃ xs ys : List V, SqL K H a xs ∧ SqT K H b ys ∧ (xs.length ≤ i ∨ ys.length ≤ i)⟩
abbrev fp5 (zz ti tt ia ib : Addr) : List Addr := [zz, ti, tt, ia, ib]
theorem in5 {zz ti tt ia ib c : Addr} (h : c ∈ fp5 zz ti tt ia ib) : c = zz ∨ c = ti ∨ c = tt ∨ c = ia ∨ c = ib := by simpa using h
theorem turnM {P : Program} {w : World} {K : PySem.W.Frag} {elts : List Expr} {kk : Nat} {tpos : Pos} {a b zz ti tt ia ib : Addr} (D : ZipApart zz ti tt ia ib a b) :
    Turn P w K (.Tuple elts kk tpos) (ItzM K a b) (fp5 zz ti tt ia ib) zz (fun i h => ∃ p q, Rest Heap.IsListIter Heap.IsTupleIter h zz ti tt ia ib a b i i p q) where
  mem := by simp
  obj := fun i h st c hc => by
    obtain ⟨p, q, R⟩ := st
    rcases in5 hc with e | e | e | e | e <;> rw [e]
    · exact ⟨_, R.z, fun v q => nomatch q⟩
    · exact ⟨_, R.i, fun v q => nomatch q⟩
    · exact ⟨_, R.o, fun v q => nomatch q⟩
    · obtain ⟨o, fs, w1, w2⟩ := wkL.live R.a
      exact ⟨o, w1, fun v q => by rw [w2] at q; cases q⟩
    · obtain ⟨o, fs, w1, w2⟩ := wkT.live R.b
      exact ⟨o, w1, fun v q => by rw [w2] at q; cases q⟩
  keep := fun i h g st k => by
    obtain ⟨p, q, R⟩ := st
    exact ⟨p, q, k zz (by simp) _ R.z, k ti (by simp) _ R.i, k tt (by simp) _ R.o, wkL.near R.a fun o e => k ia (by simp) o e, wkT.near R.b fun o e => k ib (by simp) o e⟩
  item := by
    intro X hP hw hK hc i pins s σ H E I hf st hg
    subst hP hw hK
    obtain ⟨p, q, R⟩ := st
    obtain ⟨xs, ys, x, y, q1, q2, e1, e2⟩ := hg
    obtain ⟨us, r1, l1, _⟩ := I.list q1
    obtain ⟨vs, r2, l2, _⟩ := I.tuple q2
    obtain ⟨u, hu, ru⟩ := r1.get e1
    obtain ⟨v, hv, rv⟩ := r2.get e2
    have zl : zz < s.heap.objs.size := Heap.lt_size R.z
    refine next_item wkL wkT D R l1.isList l2 (u := u) (v := v) (by simpa using hu) (by simpa using hv) fun g z' o' ja jb hT hsz hk => ?_
    refine ⟨_, rfl, wpAny_letOwnedTupleGo_zip (s := { s with heap := g }) z' fun g2 z2 sb => ?_⟩
    have T2 : g2.get? s.heap.objs.size = some { cls := .type "tuple", data := .seq #[u, v] } := (sb.2 _ (Nat.ne_of_gt zl)).trans hT
    have new : ObjOk X.prog X.w (upd H s.heap.objs.size (.tup [x, y])) g2 s.heap.objs.size (.tup [x, y]) := ⟨by show 2 ≤ sizeLine; decide, [u, v], .cons ru (.cons rv .nil), ⟨_, T2, rfl, _, rfl⟩⟩
    have out : ∀ c, c ∉ fp5 zz ti tt ia ib → c ≠ zz ∧ c ≠ tt ∧ c ≠ ia ∧ c ≠ ib := fun c hb => ⟨fun t => hb (by simp [t]), fun t => hb (by simp [t]), fun t => hb (by simp [t]), fun t => hb (by simp [t])⟩
    have I1 : Inv X pins σ (upd H s.heap.objs.size (.tup [x, y])) { s with heap := g2 } :=
      I.turnedNew (t' := s.toks) (ch := fp5 zz ti tt ia ib) (fun c o hb e => let ⟨n1, n2, n3, n4⟩ := out c hb; (sb.2 c n1).trans (hk c o n1 n2 n3 n4 e)) hf (Nat.le_refl _) new
    refine ⟨.ref s.heap.objs.size, _, I1, rfl, ⟨_, x, y, rfl, I.hok.fresh (Nat.le_refl _), rfl, fun l hl => by rw [I.list_inj hl q1]; exact e1, fun l hl => by rw [I.tuple_inj hl q2]; exact e2⟩, ⟨u, v, z2, ?_, ?_, ?_, ?_⟩, fun c hcm => ?_⟩
    · exact (sb.2 _ D.TIz).trans (hk _ _ D.TIz D.TITO D.TIi1 D.TIi2 R.i)
    · exact (sb.2 _ D.TOz).trans o'
    · exact wkL.near ja fun o e => (sb.2 _ D.i1z).trans e
    · exact wkT.near jb fun o e => (sb.2 _ D.i2z).trans e
    · have lt : c < s.heap.objs.size := by
        rcases in5 hcm with e | e | e | e | e <;> rw [e]
        · exact zl
        · exact Heap.lt_size R.i
        · exact Heap.lt_size R.o
        · obtain ⟨_, _, w1, _⟩ := wkL.live R.a; exact Heap.lt_size w1
        · obtain ⟨_, _, w1, _⟩ := wkT.live R.b; exact Heap.lt_size w1
      rw [upd_ne (Nat.ne_of_lt lt)]
      exact (hf c hcm).1
  done := by
    intro X hP hw hK hc i pins s σ H E I hf st hg
    subst hP hw hK
    obtain ⟨p, q, R⟩ := st
    obtain ⟨xs, ys, q1, q2, hend⟩ := hg
    obtain ⟨us, r1, l1, _⟩ := I.list q1
    obtain ⟨vs, r2, l2, _⟩ := I.tuple q2
    have n1 := r1.length
    have n2 := r2.length
    have he : us.toArray[i]? = none ∨ vs.toArray[i]? = none := by
      rcases hend with e | e
      · exact .inl (by simp; omega)
      · exact .inr (by simp; omega)
    exact next_halt wkL wkT (I.ok.hd hc) D R l1.isList l2 he fun g hk => ⟨rfl, I.turnedL (t' := s.toks) (ch := fp5 zz ti tt ia ib) (fun c o hb e => hk c o (fun t => hb (by simp [t])) (fun t => hb (by simp [t])) (fun t => hb (by simp [t])) (fun t => hb (by simp [t])) e) hf⟩
  self := fun A i s Q E st h => let ⟨_, _, R⟩ := st; wpAny_pyIter_zip R.z h
/-! zip(a list, a tuple) is made -/
def mk1 (h : Heap) (la : Addr) : Heap := h.push { cls := .type "list_iterator", data := .fields #[.ref la, .int 0 0] }
def mk2 (h : Heap) (la lb : Addr) : Heap := (mk1 h la).push { cls := .type "tuple_iterator", data := .fields #[.ref lb, .int 0 0] }
def mk3 (h : Heap) (la lb : Addr) : Heap := (mk2 h la lb).push { cls := .type "tuple", data := .seq #[.ref h.objs.size, .ref (mk1 h la).objs.size] }
def mk4 (h : Heap) (la lb : Addr) : Heap := (mk3 h la lb).push { cls := .type "tuple", data := .seq #[.none, .none] }
def mk5 (h : Heap) (la lb : Addr) : Heap := (mk4 h la lb).push { cls := .type "zip", data := .fields #[.none, .bool false, .bool false, .ref (mk2 h la lb).objs.size, .ref (mk3 h la lb).objs.size] }
theorem meets_new (la lb : Addr) (us vs : Array Value) :
    Meets (Builtin.«zip.__new__» ⟨[.type "zip", .ref la, .ref lb], []⟩) (fun _ R s => s.heap.IsList la us ∧ s.heap.IsTuple lb vs ∧ R (.ok (.ret (.ref (mk4 s.heap la lb).objs.size))) { s with heap := mk5 s.heap la lb }) :=
  .of_wp fun prog w A R s h => by
    obtain ⟨hp, g, d, tk, os⟩ := s
    obtain ⟨ha, hb, h⟩ := h
    have hsub := PySem.sub_zip
    have hA : Heap.IsList (Shared.heap ⟨hp, g, d, tk, os⟩) la us := ha
    have hB : Heap.IsTuple (Shared.heap ⟨hp.push { cls := .type "list_iterator", data := .fields #[.ref la, .int 0 0] }, g, d, tk, os⟩) lb vs := Heap.IsTuple.push hb _
    unfold mk5 mk4 mk3 mk2 mk1 at h
    wp_walk using wpAny_pyIter_list hA, wpAny_pyIter_tuple hB
    exact ⟨_, rfl, h⟩
section
variable {prog : Program} {w : World} {A : Around} {E : Value → Shared → Prop} {s : Shared}
theorem call_new {la lb : Addr} {us vs : Array Value} {Q : Value → Shared → Prop} (ha : s.heap.IsList la us) (hb : s.heap.IsTuple lb vs)
    (go : ∀ g, Rest Heap.IsListIter Heap.IsTupleIter g (s.heap.objs.size + 4) (s.heap.objs.size + 2) (s.heap.objs.size + 3) s.heap.objs.size (s.heap.objs.size + 1) la lb 0 0 .none .none →
      (∀ c o, s.heap.get? c = some o → g.get? c = some o) → Q (.ref (s.heap.objs.size + 4)) { s with heap := g }) : wpAny (model prog w) A (call (.type "zip") [.ref la, .ref lb]) Q E s := by
  refine callType_new PySem.F.called_zip (by decide) (PySem.F.typeCall_zip_2 _ _) (PySem.F.newCall_zip_2 _ _) (fun obj => PySem.F.args_object_init_3 obj _ _) PySem.F.entry_zip_new (meets_new la lb us vs) ⟨ha, hb, ?_⟩
  have c1 : (mk1 s.heap la).objs.size = s.heap.objs.size + 1 := Heap.size_push ..
  have c2 : (mk2 s.heap la lb).objs.size = s.heap.objs.size + 2 := (Heap.size_push ..).trans (by rw [c1])
  have c3 : (mk3 s.heap la lb).objs.size = s.heap.objs.size + 3 := (Heap.size_push ..).trans (by rw [c2])
  have c4 : (mk4 s.heap la lb).objs.size = s.heap.objs.size + 4 := (Heap.size_push ..).trans (by rw [c3])
  have up5 : ∀ c o, (mk4 s.heap la lb).get? c = some o → (mk5 s.heap la lb).get? c = some o := fun c o e => Heap.get?_push_of_some _ e
  have up4 : ∀ c o, (mk3 s.heap la lb).get? c = some o → (mk4 s.heap la lb).get? c = some o := fun c o e => Heap.get?_push_of_some _ e
  have up3 : ∀ c o, (mk2 s.heap la lb).get? c = some o → (mk3 s.heap la lb).get? c = some o := fun c o e => Heap.get?_push_of_some _ e
  have up2 : ∀ c o, (mk1 s.heap la).get? c = some o → (mk2 s.heap la lb).get? c = some o := fun c o e => Heap.get?_push_of_some _ e
  have up1 : ∀ c o, s.heap.get? c = some o → (mk1 s.heap la).get? c = some o := fun c o e => Heap.get?_push_of_some _ e
  have i1 : (mk1 s.heap la).get? s.heap.objs.size = some { cls := .type "list_iterator", data := .fields #[.ref la, .int 0 0] } := Heap.get?_push_size _ rfl
  have i2 : (mk2 s.heap la lb).get? (mk1 s.heap la).objs.size = some { cls := .type "tuple_iterator", data := .fields #[.ref lb, .int 0 0] } := Heap.get?_push_size _ rfl
  have i3 : (mk3 s.heap la lb).get? (mk2 s.heap la lb).objs.size = some { cls := .type "tuple", data := .seq #[.ref s.heap.objs.size, .ref (mk1 s.heap la).objs.size] } := Heap.get?_push_size _ rfl
  have i4 : (mk4 s.heap la lb).get? (mk3 s.heap la lb).objs.size = some { cls := .type "tuple", data := .seq #[.none, .none] } := Heap.get?_push_size _ rfl
  have i5 : (mk5 s.heap la lb).get? (mk4 s.heap la lb).objs.size = some { cls := .type "zip", data := .fields #[.none, .bool false, .bool false, .ref (mk2 s.heap la lb).objs.size, .ref (mk3 s.heap la lb).objs.size] } := Heap.get?_push_size _ rfl
  rw [c1] at i2 i3
  rw [c2] at i3 i5
  rw [c3] at i4 i5
  rw [c4] at i5
  show _ ∧ _
  rw [c4]
  exact ⟨⟨_, i5, rfl⟩, go _ ⟨i5, up5 _ _ (up4 _ _ i3), up5 _ _ i4, ⟨_, up5 _ _ (up4 _ _ (up3 _ _ (up2 _ _ i1))), rfl, rfl⟩, ⟨_, up5 _ _ (up4 _ _ (up3 _ _ i2)), rfl, rfl⟩⟩ fun c o e => up5 _ _ (up4 _ _ (up3 _ _ (up2 _ _ (up1 _ _ e))))⟩
end
def iZipM (K : PySem.W.Frag) (ta : TA) : TI := fun σ H R => ta σ H fun vs H1 => ∃ a b xs ys, vs = [.ref a, .ref b] ∧ SqL K H1 a xs ∧ SqT K H1 b ys ∧ R (ItzM K a b) H1
theorem pi_zipM {X : Cx} {e e2 : Expr} {ta : TA} {p pos tpos : Pos} {elts : List Expr} {kk : Nat} (hg : Gl X "zip") (hm : X.mg "zip" = none) (ha : PA X [e, e2] ta)
    (hs : starEach [e, e2] X.env = (false, eval e X.env) :: starEach [e2] X.env := by rfl) (hpl : (backTo pos (starEach [e2] X.env)).any (·.1) = false := by rfl) : PI X (.Tuple elts kk tpos) (.Call (.Name "zip" p) [e, e2] [] pos) (iZipM X.K ta) := by
  refine ⟨fun pins s σ H R I h => ?_⟩
  refine Call_ (ld_blt I hg hm PyProof.Rows.boot_zip (PyProof.Rows.callWith_type1 (thn (ha.run pos pins s σ H _ I h) fun us s1 ⟨vs, H1, I1, r1, a, b, xs, ys, ev, q1, q2, q⟩ => ?_) hs hpl))
  subst ev
  cases r1 with
  | cons ra r =>
    cases r with
    | cons rb r =>
      cases r
      cases ra
      cases rb
      obtain ⟨its, r1, l1, _⟩ := I1.list q1
      obtain ⟨jts, r2, l2, _⟩ := I1.tuple q2
      obtain ⟨o2, w2, _⟩ := id l2
      refine call_new l1.isList (show s1.heap.IsTuple b jts.toArray from l2) fun g R5 hk => wpAny_pyIter_zip R5.z ?_
      have I2 : Inv X pins σ H1 { s1 with heap := g } := I1.kept (t' := s1.toks) hk
      refine ⟨s1.heap.objs.size + 4, fp5 (s1.heap.objs.size + 4) (s1.heap.objs.size + 2) (s1.heap.objs.size + 3) s1.heap.objs.size (s1.heap.objs.size + 1), _, _, H1, rfl, I2, turnM (PySem.W.ktu_apart s1.heap.objs.size a b l1.lt (Heap.lt_size w2)), ⟨_, _, R5⟩, fun c hc => ?_, q⟩
      have big : s1.heap.objs.size ≤ c := by
        have := in5 hc
        rcases this with e | e | e | e | e <;> rw [e] <;> first | exact Nat.le_refl _ | exact Nat.le_add_right _ _
      exact I1.fpOk big (I1.hok.fresh big)
end ZMx
namespace Dv
open PySem PySem.Spec PyProof.Rows L2
def srZM (n : MA) : Src := fun ρ S => (n ρ S).bind fun ds S1 => match ds with
  | [.lst _ xs, .tup ys] => .ok (zipD xs ys) S1
  | _ => .bad
section
variable {s : Sit} {e e2 : Expr} {n : MA} {p pos tpos : Pos} {elts : List Expr} {kk : Nat}
theorem si_zipM (hg : Gl s.X "zip") (hm : s.X.mg "zip" = none) (ha : SA s [e, e2] n)
    (hs : starEach [e, e2] s.X.env = (false, eval e s.X.env) :: starEach [e2] s.X.env := by rfl) (hpl : (backTo pos (starEach [e2] s.X.env)).any (·.1) = false := by rfl) : SI s (.Tuple elts kk tpos) (.Call (.Name "zip" p) [e, e2] [] pos) (srZM n) := by
  refine PI.weak (ZMx.pi_zipM hg hm ha hs hpl) fun σ H R q => ?_
  obtain ⟨ρ, S, A, c, q⟩ := q
  refine tDa_bindI c q fun ds S1 vs H1 em p1 c1 r1 q1 => ?_
  split at q1
  case h_2 => exact q1.elim
  rename_i f1 xs ys
  obtain ⟨v, w, rfl, ra, rb⟩ := r1.two
  obtain ⟨a, us, rfl, hs, hl, later⟩ := list_later c1.cells (ra.rp (fun n z => nomatch z) fun c fs z => nomatch z) rfl
  obtain ⟨b, ws, rfl, hs2, hl2, later2⟩ := tup_later c1.cells (rb.rp (fun n z => nomatch z) fun c fs z => nomatch z)
  refine ⟨a, b, us, ws, rfl, hs, hs2, q1 _ H1 (.refl c1.cells) fun A' S' H' e g c' => ⟨fun i x hd => ?_, ?_⟩⟩
  · obtain ⟨k1, k2⟩ := later A' S' H' e g
    obtain ⟨k3, k4⟩ := later2 A' S' H' e g
    obtain ⟨y, z, h1, h2, rfl⟩ := zipD_get xs ys i x hd
    obtain ⟨x1, hx, rx⟩ := k2.get h1
    obtain ⟨x2, hx2, rx2⟩ := k4.get h2
    refine ⟨⟨us, ws, x1, x2, k1, k3, hx, hx2⟩, fun z H'' hy => ?_⟩
    obtain ⟨T, u1, u2, rfl, hT, rfl, hu1, hu2⟩ := hy
    have t1 := hu1 us k1
    have t2 := hu2 ws k3
    rw [hx] at t1; cases t1
    rw [hx2] at t2; cases t2
    exact pair_new c' hT rx rx2
  · obtain ⟨k1, k2⟩ := later A' S' H' e g
    obtain ⟨k3, k4⟩ := later2 A' S' H' e g
    exact ⟨us, ws, k1, k3, by rw [zipD_len]; omega⟩
end
end Dv

set_option maxHeartbeats 4000000
/-! a, b, .. = a list -/
namespace Dv
open PySem PySem.Spec PyProof.Rows L2
set_option autoImplicit false
def gL (t : Tgs) : Tg := fun d ρ => match d with
  | .lst _ xs => t xs ρ
  | _ => none
section
variable {s : Sit} {pos : Pos} {vs : List Nat}
theorem sg_lst {es : List Expr} {k : Nat} {t : Tgs} {n : Nat} (hc : s.X.calm = true) (h : SGs s es vs t)
    (hn : (assignEach es s.X.env).length = n := by rfl) (hst : (assignEach es s.X.env).findIdx? (·.1) = none := by rfl) (ht : ∀ ds ρ ρ', t ds ρ = some ρ' → ds.length = n) : SG s (.Tuple es k pos) vs (gL t) := by
  refine PG.weak (pg_unl hc h hn hst) fun v σ H Q q => ?_
  obtain ⟨ρ, S, A, d, ρ', c, r, h, q⟩ := q
  cases r with
  | lst na ha ra => exact ⟨_, _, rfl, .of ha, by rw [ra.length]; exact ht _ _ _ h, ρ, S, A, _, ρ', c, ra, h, q⟩
  | _ => cases h
end
end Dv

set_option maxHeartbeats 4000000
/-! repr of ints, bools, texts too -/
namespace Dv
open PySem PySem.Spec PyProof.Rows L2
set_option autoImplicit false
def rReprO : List V → Hp → VK → Prop := fun xs H Q => (∃ i, xs = [.int i] ∧ i.natAbs.log2 < 1920 ∧ Q (.str (toString i)) H) ∨ (∃ b : Bool, xs = [.bl b] ∧ Q (.str (if b then "True" else "False")) H) ∨ ∃ x : Str, xs = [.str x] ∧ (reprText x).length ≤ sizeLine ∧ Q (.str (reprText x)) H
theorem call_reprO {X : Cx} : CallR X (.builtin "repr") rReprO := by
  intro pins s σ H xs us Q I r h
  rcases h with ⟨i, rfl, hi, q⟩ | ⟨b, rfl, q⟩ | ⟨x, rfl, hx, q⟩
  · cases r with
    | cons rx rt =>
      cases rt
      obtain ⟨t, rfl⟩ := rx
      exact PySem.P.repr_of_int hi ⟨.str (toString i), H, I.tok _, ⟨_, rfl⟩, q⟩
  · cases r with
    | cons rx rt =>
      cases rt
      cases rx
      exact PySem.P.repr_of_bool ⟨.str (if b then "True" else "False"), H, I.tok _, ⟨_, by cases b <;> rfl⟩, q⟩
  · cases r with
    | cons rx rt =>
      cases rt
      obtain ⟨t, rfl⟩ := rx
      exact PySem.P.repr_of_str ⟨.str (reprText x), H, I.tok _, ⟨_, rfl⟩, q⟩ hx
def cReprO (S : Store) (ds : List D) : Option D := match ds with
  | [.int i] => if i.natAbs.log2 < 1920 then some (.str (toString i)) else none
  | [.bl b] => some (.str (if b then "True" else "False"))
  | [.str x] => if (reprText x).length ≤ LINE then some (.str (reprText x)) else none
  | _ => none
def cRepr3 (S : Store) (ds : List D) : Option D := match cReprO S ds with
  | some x => some x
  | none => cRepr2 S ds
section
variable {s : Sit}
theorem sem_reprO : CallSem s cReprO rReprO := by
  intro A S H vs ds x Q c r hf q
  unfold cReprO at hf
  split at hf
  · rename_i i
    split at hf
    case isFalse => cases hf
    rename_i hi
    cases hf
    obtain ⟨v, rfl, rv⟩ := r.one
    have e : v = .int i := (rv.as c (x := .int i) rfl).int
    subst e
    exact .inl ⟨i, rfl, hi, old_of (.str _) rfl q⟩
  · rename_i b
    cases hf
    obtain ⟨v, rfl, rv⟩ := r.one
    have e : v = .bl b := (rv.as c (x := .bl b) rfl).bl
    subst e
    exact .inr (.inl ⟨b, rfl, old_of (.str _) rfl q⟩)
  · rename_i y
    split at hf
    case isFalse => cases hf
    rename_i hi
    cases hf
    obtain ⟨v, rfl, rv⟩ := r.one
    have e : v = .str y := (rv.as c (x := .str y) rfl).str
    subst e
    exact .inr (.inr ⟨y, rfl, by rw [line_eq]; exact hi, old_of (.str _) rfl q⟩)
  · cases hf
theorem call_repr3 (hg : s.X.A.guards = some []) (hu : s.X.A.units + 65 < cLine) : CallR s.X (.builtin "repr") (fun vs H Q => rReprO vs H Q ∨ (rReprN vs H Q ∨ rRepr s.X.K vs H Q)) := call_or call_reprO (call_repr2 hg hu)
theorem sem_repr3 : CallSem s cRepr3 (fun vs H Q => rReprO vs H Q ∨ (rReprN vs H Q ∨ rRepr s.X.K vs H Q)) := by
  intro A S H vs ds x Q c r hf q
  unfold cRepr3 at hf
  cases e : cReprO S ds with
  | some y => rw [e] at hf; cases hf; exact .inl (sem_reprO A S H vs ds _ Q c r e q)
  | none => rw [e] at hf; exact .inr (sem_repr2 A S H vs ds x Q c r hf q)
end
end Dv

set_option maxHeartbeats 4000000
/-! t < u of tuples of ints -/
namespace Dv
open PySem PySem.Spec PyProof.Rows L2
set_option autoImplicit false
def dLtT (S : Store) (d e : D) : Option D := match vw S d, vw S e with
  | .tup xs, .tup ys => (match intsOf xs, intsOf ys with
    | some ns, some ms => some (.bl (HT.lexLt ns ms))
    | _, _ => none)
  | _, _ => none
def dLt2 (S : Store) (d e : D) : Option D := (dLt S d e).orElse fun _ => dLtT S d e
section
variable {s : Sit}
theorem sem_ltT : OpSem s dLtT (rLtT s.X.K) := by
  intro A S H v w d e x Q c rd re hf q
  unfold dLtT at hf
  split at hf
  case h_2 => cases hf
  rename_i xs ys h1 h2
  split at hf
  case h_2 => cases hf
  rename_i ns ms h3 h4
  cases hf
  obtain ⟨a, us, rfl, ha, ra⟩ := (rd.as c h1).tup
  obtain ⟨b, vs, rfl, hb, rb⟩ := (re.as c h2).tup
  rw [intsOf_eq h3] at ra
  rw [intsOf_eq h4] at rb
  rw [ra.ints] at ha
  rw [rb.ints] at hb
  exact ⟨a, b, ns, ms, rfl, rfl, ha, hb, old_of (.bl _) rfl q⟩
theorem op_lt2 (hu : s.X.A.units + 65 < cLine) : OpR s.X (compareOp .Lt) (fun x y H Q => rI0 (fun i j => .bl (decide (i < j))) x y H Q ∨ rLtT s.X.K x y H Q) := op_lt.or (op_ltT (by omega))
theorem sem_lt2 : OpSem s dLt2 (fun x y H Q => rI0 (fun i j => .bl (decide (i < j))) x y H Q ∨ rLtT s.X.K x y H Q) := sem_lt.or sem_ltT
end
end Dv

set_option maxHeartbeats 4000000
/-! any, all of a list of ints and bools -/
namespace Dv
open PySem PySem.Spec PyProof.Rows L2
set_option autoImplicit false
def truV : V → Option Bool
  | .bl b => some b
  | .int i => some (decide (i ≠ 0))
  | _ => none
def tru1 : D → Option Bool
  | .bl b => some b
  | .int i => some (decide (i ≠ 0))
  | _ => none
def trus1 : List D → Option (List Bool)
  | [] => some []
  | d :: ds => match tru1 d with
    | some b => (match trus1 ds with
      | some bs => some (b :: bs)
      | none => none)
    | none => none
theorem trus_rp {K : PySem.W.Frag} {H : Hp} {O : Ow} : ∀ {vs : List V} {ds : List D} {bs : List Bool}, RpAll K H O vs ds → trus1 ds = some bs → vs.map truV = bs.map some
  | _, _, bs, .nil, h => by cases h; rfl
  | v :: vs, d :: ds, bs, .cons r t, h => by
    unfold trus1 at h
    cases e1 : tru1 d with
    | none => rw [e1] at h; cases h
    | some b =>
      rw [e1] at h
      cases e2 : trus1 ds with
      | none => rw [e2] at h; cases h
      | some cs =>
        rw [e2] at h
        cases h
        have hv : truV v = some b := by
          cases d with
          | bl x => cases r; exact e1
          | int i => cases r; exact e1
          | _ => cases e1
        rw [List.map_cons, List.map_cons, hv, trus_rp t e2]
theorem truth_mix {prog : Program} {w : World} {A : Around} {xs : List V} {its : List Value} {bs : List Bool} (r : Vals xs its) (e : xs.map truV = bs.map some) :
    TruthOf prog w A (fun i v => its.toArray[i]? = some v) (fun i => bs.getD i false) := fun i v s Q E hv hq => by
  have hv' : its[i]? = some v := by simpa using hv
  have hi : i < xs.length := by
    have hl := r.length
    rcases Nat.lt_or_ge i its.length with z | z
    · omega
    · rw [List.getElem?_eq_none z] at hv'; cases hv'
  have hx : xs[i]? = some xs[i] := List.getElem?_eq_getElem hi
  obtain ⟨u, hu, ru⟩ := r.get hx
  rw [hv'] at hu
  cases hu
  have hb : truV xs[i] = some (bs.getD i false) := by
    have q1 : (xs.map truV)[i]? = some (truV xs[i]) := by rw [List.getElem?_map, hx]; rfl
    rw [e, List.getElem?_map] at q1
    cases hbs : bs[i]? with
    | none => rw [hbs] at q1; cases q1
    | some b =>
      rw [hbs] at q1
      rw [List.getD_eq_getElem?_getD, hbs]
      exact (Option.some.inj q1).symm
  have hq' : Q (bs.getD i false) s := hq
  cases hxi : xs[i] with
  | bl b =>
    rw [hxi] at ru hb
    cases ru
    have hb : b = bs.getD i false := Option.some.inj hb
    rw [← hb] at hq'
    exact wpAny_truthy_bool hq'
  | int n =>
    rw [hxi] at ru hb
    obtain ⟨t, rfl⟩ := ru
    have hb : decide (n ≠ 0) = bs.getD i false := Option.some.inj hb
    rw [← hb] at hq'
    have e0 : (n != 0) = decide (n ≠ 0) := by by_cases z : n = 0 <;> simp [z]
    refine PySem.P.truthy_int ?_
    rw [e0]
    exact hq'
  | _ => rw [hxi] at hb; cases hb
def rAnyV (K : PySem.W.Frag) : List V → Hp → VK → Prop := fun vs H Q => ∃ (a : Addr) (xs : List V) (bs : List Bool), vs = [V.ref a] ∧ SqL K H a xs ∧ xs.map truV = bs.map some ∧ Q (.bl (bs.any id)) H
def rAllV (K : PySem.W.Frag) : List V → Hp → VK → Prop := fun vs H Q => ∃ (a : Addr) (xs : List V) (bs : List Bool), vs = [V.ref a] ∧ SqL K H a xs ∧ xs.map truV = bs.map some ∧ Q (.bl (bs.all id)) H
section
variable {X : Cx}
theorem cr_anyV (hc : X.calm = true) : CallR X (.builtin "any") (rAnyV X.K) := by
  intro pins s σ H vs us Q I r h
  obtain ⟨a, xs, bs, rfl, hs, ht, q⟩ := h
  obtain ⟨its, rv, hl, _⟩ := I.list hs
  have len : its.length = bs.length := by
    have := congrArg List.length ht
    simp only [List.length_map] at this
    rw [← rv.length]; exact this
  rw [Vals.ref1 r]
  refine call_any_walk (iter_any hl.isList fun s2 e2 st hne => ?_)
  subst e2
  refine ⟨_, _, _, _, _, _, _, rfl, Walks.list (A := X.A.in1) (I.ok.hd hc) _ a hne its.toArray, st, truth_mix rv ht, fun h' tk hk => ?_⟩
  refine ⟨.bl _, H, I.kept fun b o eo => hk b o (fun hm => ?_) (Heap.get?_push_of_some _ eo), ?_, q⟩
  · rcases List.mem_cons.mp hm with e1 | hm
    · exact absurd (e1 ▸ Heap.lt_size eo) (Nat.lt_irrefl _)
    · cases hm
  · show Value.bool _ = Value.bool _
    rw [← L2.any_range, List.size_toArray, len]
theorem cr_allV (hc : X.calm = true) : CallR X (.builtin "all") (rAllV X.K) := by
  intro pins s σ H vs us Q I r h
  obtain ⟨a, xs, bs, rfl, hs, ht, q⟩ := h
  obtain ⟨its, rv, hl, _⟩ := I.list hs
  have len : its.length = bs.length := by
    have := congrArg List.length ht
    simp only [List.length_map] at this
    rw [← rv.length]; exact this
  rw [Vals.ref1 r]
  refine call_all_walk (iter_any hl.isList fun s2 e2 st hne => ?_)
  subst e2
  refine ⟨_, _, _, _, _, _, _, rfl, Walks.list (A := X.A.in1) (I.ok.hd hc) _ a hne its.toArray, st, truth_mix rv ht, fun h' tk hk => ?_⟩
  refine ⟨.bl _, H, I.kept fun b o eo => hk b o (fun hm => ?_) (Heap.get?_push_of_some _ eo), ?_, q⟩
  · rcases List.mem_cons.mp hm with e1 | hm
    · exact absurd (e1 ▸ Heap.lt_size eo) (Nat.lt_irrefl _)
    · cases hm
  · show Value.bool _ = Value.bool _
    rw [← L2.all_range, List.size_toArray, len]
end
def cAnyV (S : Store) (ds : List D) : Option D := ((listArg S ds).bind trus1).map fun bs => .bl (bs.any id)
def cAllV (S : Store) (ds : List D) : Option D := ((listArg S ds).bind trus1).map fun bs => .bl (bs.all id)
section
variable {s : Sit}
theorem sem_anyV : CallSem s cAnyV (rAnyV s.X.K) := by
  intro A S H vs ds x Q c r hf q
  simp only [cAnyV, Option.map_eq_some_iff, Option.bind_eq_some_iff] at hf
  obtain ⟨bs, ⟨xs, h1, h2⟩, rfl⟩ := hf
  obtain ⟨a, ys, rfl, h3, h4⟩ := listArg_ok c r h1
  exact ⟨a, ys, bs, rfl, h3, trus_rp h4 h2, old_of (.bl _) rfl q⟩
theorem sem_allV : CallSem s cAllV (rAllV s.X.K) := by
  intro A S H vs ds x Q c r hf q
  simp only [cAllV, Option.map_eq_some_iff, Option.bind_eq_some_iff] at hf
  obtain ⟨bs, ⟨xs, h1, h2⟩, rfl⟩ := hf
  obtain ⟨a, ys, rfl, h3, h4⟩ := listArg_ok c r h1
  exact ⟨a, ys, bs, rfl, h3, trus_rp h4 h2, old_of (.bl _) rfl q⟩
end
end Dv

set_option maxHeartbeats 4000000
/-! calls with starred arguments -/
namespace Dv
open PySem PySem.Spec PyProof.Rows L2
set_option autoImplicit false
section
variable {G : Gd} {s : Sit} {j k : Nat} {f : Addr} {n : Nat} {m : Fn} {x : Str} {e : Expr} {es : List Expr} {a : MA} {p sp_ pos : Pos}
/-- f(e, .., *y), f a def -/
theorem se_callS (g : Gs G k s) (F : FnD G j f n m) (hj : j ≤ k) (hg : Gl s.X x) (hm : G.mg x = some (.ref f)) (hk : PySem.W.keepIn G.K (.ref f) = true) (ha : SA s (e :: es) a)
    (hdb : (x == ("__debug__" : Str)) = false := by decide) (he : starEach (e :: es) s.X.env = (false, eval e s.X.env) :: starEach es s.X.env := by rfl) (hst : (backTo pos (starEach es s.X.env)).any (·.1) = true := by rfl) :
    SE s (.Call (.Name x p) (e :: es) [] pos) (mCall m n a) := by
  refine ⟨fun pins sh σ H Q I q => ?_⟩
  refine wpAny_Call_Name_kw (ld_glob I hg (by rw [g.mg]; exact hm) ?_ hdb)
  refine PySem.W.callWith_S2 (h₀ := s.X.base) I.ok.mod.kin (by rw [g.K]; exact hk) (thn (ha.run pos pins sh σ H _ I (call_red g q)) fun us s1 ⟨vs, H1, I1, r, q1⟩ => ⟨I1.kIn, ?_⟩) he hst
  exact run_D g F hj I1 r q1.1 (fun _ _ _ h => h) q1.2
end
end Dv

set_option maxHeartbeats 1000000
/-! sorted(xs, key=len), xs a list of tuples -/
namespace Dv
open PySem PySem.Spec PyProof.Rows L2
set_option autoImplicit false
def lenD : D → Nat
  | .tup xs => xs.length
  | _ => 0
def isTupD : D → Bool
  | .tup _ => true
  | _ => false
def leLen (x y : D) : Bool := decide ((lenD x : Int) ≤ (lenD y : Int))
def rSortLen (K : PySem.W.Frag) : List V → Hp → VK → Prop := fun vs H Q => ∃ (a : Addr) (bs : List (V × D)), vs = [V.ref a] ∧ SqL K H a (bs.map (·.1)) ∧ (∀ b ∈ bs, ∃ t xs, b.1 = V.ref t ∧ SqT K H t xs ∧ xs.length = lenD b.2) ∧
  ∀ p, H p = none → Q (.ref p) (upd H p (.lst ((bs.mergeSort fun x y => leLen x.2 y.2).map (·.1))))
theorem t1_len (a : Addr) : Builtin.«list.sort» ⟨[.ref a], [(Str.ofString "key", .builtin "len")]⟩ = PyProof.Rows.ksk_tree a (.builtin "len") false := rfl
theorem sortLen_run {X : Cx} (hu : X.A.units + 65 < cLine) {pins : List (Addr × Obj)} {s : Shared} {σ : L2.St} {H : Hp} {vs : List V} {us : List Value} {Q : VK} (I : Inv X pins σ H s) (r : Vals vs us) (h : rSortLen X.K vs H Q) :
    wpAny (model X.prog X.w) X.A (call (.builtin "sorted") us [(Str.ofString "key", .builtin "len")]) (EP X pins σ Q) X.xe s := by
  obtain ⟨a, bs, rfl, hs, hd, q⟩ := h
  obtain ⟨its, rv, hl, hz⟩ := I.list hs
  rw [Vals.ref1 r]
  have each : ∀ {us : List Value} {cs : List (V × D)}, Vals (cs.map (·.1)) us → PySem.W.EachIs (fun u (b : V × D) => RelV b.1 u) us cs := by
    intro us cs h
    induction cs generalizing us with
    | nil => cases h; exact .nil
    | cons c cs ih => cases h with | cons h1 h2 => exact .cons h1 (ih h2)
  have back : ∀ {us : List Value} {cs : List (V × D)}, PySem.W.EachIs (fun u (b : V × D) => RelV b.1 u) us cs → Vals (cs.map (·.1)) us := by
    intro us cs h
    induction h with
    | nil => exact .nil
    | cons h1 _ ih => exact .cons h1 ih
  have e := each rv
  have hl3 := line63
  have hs3 : sizeLine = 16777216 := sizeLine_eq
  have ek : (fun b : V × D => PyData.int ((lenD b.2 : Nat) : Int)) = fun b : V × D => PyData.int ((fun b : V × D => ((lenD b.2 : Nat) : Int)) b) := rfl
  refine PySem.W.sorted_key_data (b := false) (fun b : V × D => PyData.int ((lenD b.2 : Nat) : Int)) hl.isList e (PySem.W.AllAlike.of fun _ _ => by simp [PySem.W.alike]) (PySem.W.Sortable.others fun _ => ⟨by simp, fun _ => by simp⟩) (by rw [List.length_map] at hz; exact hz) (fun b hb => ?_) (ksk_s1 _ _) (fun _ => ksk_l1 _ _) (fun _ => t1_len _)
    (fun v b hv hb h tk kp => ?_) fun out c h' tk kp hn hD hlen eo => ?_
  · have hd0 : (PyData.int ((lenD b.2 : Nat) : Int)).depth = 0 := by simp [PyData.depth]
    omega
  · obtain ⟨t, xs, e1, hx, e2⟩ := hd b hb
    rw [e1] at hv
    cases hv
    obtain ⟨ts, r', pl, hz2⟩ := I.tuple hx
    have hlen := r'.length
    have pl' : IsTup h t ts.toArray := pl.keeps kp
    refine len_tuple (s := { s with heap := h, toks := tk }) pl' (by simp only [List.size_toArray]; omega) ?_
    refine ⟨h, tk + 1 + 1, rfl, fun _ _ z => z, ?_⟩
    have e3 : (ts.toArray.size : Int) = ((lenD b.2 : Nat) : Int) := by simp only [List.size_toArray]; omega
    rw [e3]
    exact .int _ _
  · rw [PySem.W.dataLe_int] at eo
    have hlen2 : ((bs.mergeSort fun x y => leLen x.2 y.2).map (·.1)).length ≤ sizeLine := by
      rw [List.length_map, List.length_mergeSort]
      rw [List.length_map] at hz
      exact hz
    exact ⟨.ref _, upd H (s.heap.objs.size + 1) (.lst ((bs.mergeSort fun x y => leLen x.2 y.2).map (·.1))), I.laid (t' := tk) kp (Nat.le_succ _) ⟨hlen2, out, c, back eo, hD⟩, rfl, q _ (I.hok.fresh (Nat.le_succ _))⟩
end Dv

set_option maxHeartbeats 1000000
/-! sorted(xs, key=len): the reading on data, the rule -/
namespace Dv
open PySem PySem.Spec PyProof.Rows L2
set_option autoImplicit false
/-- two lists in ascending order of a key, with the same items of each key, are equal -/
theorem same_by_key {α : Type} (k : α → Nat) : ∀ {xs ys : List α}, xs.Pairwise (fun a b => k a ≤ k b) → ys.Pairwise (fun a b => k a ≤ k b) → (∀ n, xs.filter (fun a => k a == n) = ys.filter (fun a => k a == n)) → xs = ys
  | [], ys, _, _, h => by
    cases ys with
    | nil => rfl
    | cons y ys => have := h (k y); simp at this
  | x :: xs, ys, h1, h2, h => by
    cases ys with
    | nil => have := h (k x); simp at this
    | cons y ys =>
      have q1 := List.pairwise_cons.mp h1
      have q2 := List.pairwise_cons.mp h2
      have hx : x ∈ (y :: ys).filter (fun a => k a == k x) := by rw [← h (k x)]; simp
      have hy : y ∈ (x :: xs).filter (fun a => k a == k y) := by rw [h (k y)]; simp
      have hx' := (List.mem_filter.mp hx).1
      have hy' := (List.mem_filter.mp hy).1
      have e : k x = k y := by
        have a1 : k y ≤ k x := by
          rcases List.mem_cons.mp hx' with z | z
          · rw [z]; exact Nat.le_refl _
          · exact q2.1 _ z
        have a2 : k x ≤ k y := by
          rcases List.mem_cons.mp hy' with z | z
          · rw [z]; exact Nat.le_refl _
          · exact q1.1 _ z
        omega
      have hh := h (k x)
      rw [List.filter_cons_of_pos (by simp), List.filter_cons_of_pos (by simp [e])] at hh
      injection hh with e1 e2
      subst e1
      congr 1
      refine same_by_key k q1.2 q2.2 fun n => ?_
      have hn := h n
      by_cases z : k x = n
      · rw [List.filter_cons_of_pos (by simp [z]), List.filter_cons_of_pos (by simp [z])] at hn
        injection hn
      · rw [List.filter_cons_of_neg (by simp [z]), List.filter_cons_of_neg (by simp [z])] at hn
        exact hn
def insN (k : D → Nat) (x : D) : List D → List D
  | [] => [x]
  | y :: ys => if k x ≤ k y then x :: y :: ys else y :: insN k x ys
def isortN (k : D → Nat) : List D → List D
  | [] => []
  | x :: xs => insN k x (isortN k xs)
theorem insN_perm (k : D → Nat) (x : D) : ∀ ys : List D, (insN k x ys).Perm (x :: ys)
  | [] => .refl _
  | y :: ys => by
    unfold insN
    split
    · exact .refl _
    · exact ((insN_perm k x ys).cons y).trans (List.Perm.swap x y ys)
theorem isortN_perm (k : D → Nat) : ∀ xs : List D, (isortN k xs).Perm xs
  | [] => .refl _
  | x :: xs => (insN_perm k x _).trans ((isortN_perm k xs).cons x)
theorem insN_pw (k : D → Nat) (x : D) : ∀ {ys : List D}, ys.Pairwise (fun a b => k a ≤ k b) → (insN k x ys).Pairwise (fun a b => k a ≤ k b)
  | [], _ => List.pairwise_singleton _ _
  | y :: ys, h => by
    have q := List.pairwise_cons.mp h
    unfold insN
    split
    · rename_i hxy
      refine List.pairwise_cons.mpr ⟨fun z hz => ?_, h⟩
      rcases List.mem_cons.mp hz with rfl | hz
      · exact hxy
      · exact Nat.le_trans hxy (q.1 z hz)
    · rename_i hxy
      refine List.pairwise_cons.mpr ⟨fun z hz => ?_, insN_pw k x q.2⟩
      rcases List.mem_cons.mp ((insN_perm k x ys).mem_iff.mp hz) with rfl | hz
      · omega
      · exact q.1 z hz
theorem isortN_pw (k : D → Nat) : ∀ xs : List D, (isortN k xs).Pairwise (fun a b => k a ≤ k b)
  | [] => .nil
  | x :: xs => insN_pw k x (isortN_pw k xs)
theorem insN_filter (k : D → Nat) (x : D) (n : Nat) : ∀ ys : List D, (insN k x ys).filter (fun a => k a == n) = (x :: ys).filter (fun a => k a == n)
  | [] => rfl
  | y :: ys => by
    unfold insN
    split
    · rfl
    · rename_i hxy
      by_cases hy : k y = n
      · have hx : ¬ k x = n := by omega
        rw [List.filter_cons_of_pos (by simp [hy]), insN_filter k x n ys, List.filter_cons_of_neg (by simp [hx]), List.filter_cons_of_neg (by simp [hx]), List.filter_cons_of_pos (by simp [hy])]
      · rw [List.filter_cons_of_neg (by simp [hy]), insN_filter k x n ys]
        by_cases hx : k x = n
        · rw [List.filter_cons_of_pos (by simp [hx]), List.filter_cons_of_pos (by simp [hx]), List.filter_cons_of_neg (by simp [hy])]
        · rw [List.filter_cons_of_neg (by simp [hx]), List.filter_cons_of_neg (by simp [hx]), List.filter_cons_of_neg (by simp [hy])]
theorem isortN_filter (k : D → Nat) (n : Nat) : ∀ xs : List D, (isortN k xs).filter (fun a => k a == n) = xs.filter (fun a => k a == n)
  | [] => rfl
  | x :: xs => by
    unfold isortN
    rw [insN_filter]
    by_cases hx : k x = n
    · rw [List.filter_cons_of_pos (by simp [hx]), List.filter_cons_of_pos (by simp [hx]), isortN_filter k n xs]
    · rw [List.filter_cons_of_neg (by simp [hx]), List.filter_cons_of_neg (by simp [hx]), isortN_filter k n xs]
theorem leLen_iff {x y : D} : leLen x y = true ↔ lenD x ≤ lenD y := by unfold leLen; rw [decide_eq_true_eq]; omega
theorem mergeSort_isortN (xs : List D) : xs.mergeSort leLen = isortN lenD xs := by
  have tr : ∀ a b c : D, leLen a b = true → leLen b c = true → leLen a c = true := fun a b c h1 h2 => by
    rw [leLen_iff] at *
    omega
  have to : ∀ a b : D, (leLen a b || leLen b a) = true := fun a b => by
    rw [Bool.or_eq_true, leLen_iff, leLen_iff]
    omega
  refine same_by_key lenD ((List.pairwise_mergeSort tr to xs).imp fun h => leLen_iff.mp h) (isortN_pw lenD xs) fun n => ?_
  rw [isortN_filter]
  have hp : (xs.filter fun a => lenD a == n).Pairwise (fun a b => leLen a b = true) := List.pairwise_iff_forall_sublist.mpr fun {a b} h => by
    have h1 : lenD a = n := by simpa using (List.mem_filter.mp (h.subset (List.mem_cons_self ..))).2
    have h2 : lenD b = n := by simpa using (List.mem_filter.mp (h.subset (List.mem_cons_of_mem _ (List.mem_cons_self ..)))).2
    rw [leLen_iff]
    omega
  have sb := (List.sublist_mergeSort tr to hp List.filter_sublist).filter (fun a => lenD a == n)
  rw [List.filter_filter] at sb
  have e1 : (xs.filter fun a => (lenD a == n && lenD a == n)) = xs.filter fun a => lenD a == n := by simp
  rw [e1] at sb
  refine (sb.eq_of_length ?_).symm
  exact ((List.mergeSort_perm xs leLen).symm.filter _).length_eq
end Dv

set_option maxHeartbeats 1000000
/-! sorted(xs, key=len): the rule -/
namespace Dv
open PySem PySem.Spec PyProof.Rows L2
set_option autoImplicit false
def cSortLen (S : Store) (ds : List D) : Option D := (listArg S ds).bind fun xs => if xs.all isTupD then some (.lst true (isortN lenD xs)) else none
section
variable {s : Sit}
theorem sem_sortLen : CallSem s cSortLen (rSortLen s.X.K) := by
  intro A S H vs ds x Q c r hf q
  simp only [cSortLen, Option.bind_eq_some_iff] at hf
  obtain ⟨xs, h1, hf⟩ := hf
  split at hf
  case isFalse => cases hf
  rename_i ok
  cases hf
  obtain ⟨a, ys, rfl, h3, h4⟩ := listArg_ok c r h1
  have hl := h4.length
  refine ⟨a, ys.zip xs, rfl, by rw [zip_fst hl]; exact h3, fun b hb => ?_, ?_⟩
  · have hm : b.2 ∈ xs := (List.of_mem_zip hb).2
    have ht := List.all_eq_true.mp ok _ hm
    have hr := h4.zip b hb
    obtain ⟨v, d⟩ := b
    cases d with
    | tup zs =>
      have hr' : Rp s.X.K H (Own A S) v (.tup zs) := hr
      cases hr' with
      | tup e2 e3 => exact ⟨_, _, rfl, e2, e3.length⟩
    | _ => cases ht
  · have e : isortN lenD xs = (((ys.zip xs).mergeSort fun x y => leLen x.2 y.2).map (·.2)) := by
      rw [List.map_mergeSort (s := leLen) (fun _ _ _ _ => rfl), zip_snd hl, mergeSort_isortN]
    rw [e] at q
    exact new_lst c (RpAll.unzip fun b hb => h4.zip b (List.mem_mergeSort.mp hb)) q
variable {p p2 kp pos : Pos} {e : Expr} {n : MA}
theorem se_sortLen (hu : s.X.A.units + 65 < cLine) (hg : Gl s.X "sorted") (hm : s.X.mg "sorted" = none) (hgl : Gl s.X "len") (hml : s.X.mg "len" = none) (ha : SA s [e] n)
    (he : backTo pos (starEach [e] s.X.env) = (false, eval e s.X.env) :: backTo pos (starEach [] s.X.env) := by rfl) (hpl : (backTo pos (starEach [e] s.X.env)).any (·.1) = false := by rfl) :
    SE s (.Call (.Name "sorted" p) [e] [⟨some "key", .Name "len" p2, kp⟩] pos) (mBlt cSortLen n) := by
  refine ⟨fun pins sh σ H Q I q => ?_⟩
  have q' := blt_red sem_sortLen q
  refine wpAny_Call_Name_kw (ld_blt I hg hm (u := .builtin "sorted") rfl ?_)
  refine PyProof.Rows.callWith_kw (thn (ha.run pos pins sh σ H _ I q') fun us s1 ⟨vs, H1, I1, r1, q1⟩ => ?_) he hpl rfl rfl
  show wpAny _ _ (evalAll ((do let v ← eval (.Name "len" p2) s.X.env; standAt pos; pure v) :: [])) _ _ s1
  refine wpAny_evalAll_cons (wpAny_bind (ld_blt I1 hgl hml (u := .builtin "len") rfl (wpAny_bind (wpAny_standAt (wpAny_pure (wpAny_evalAll_nil ?_))))))
  exact sortLen_run hu I1 r1 q1
end
end Dv

set_option maxHeartbeats 4000000
/-! what is never reached; sources which are lists or tuples; own lists that are only read -/
namespace Dv
open PySem PySem.Spec PyProof.Rows L2
set_option autoImplicit false
def mBadE : ME := fun _ _ => .bad
def mBadT : MT := fun _ _ => .bad
def mBadF : Fn := fun _ _ => .bad
theorem se_bad {s : Sit} {e : Expr} : SE s e mBadE := ⟨fun pins sh σ H Q I q => by obtain ⟨ρ, S, A, c, q⟩ := q; exact q.elim⟩
theorem st_bad {s : Sit} {e : Expr} : ST s e mBadT := ⟨fun pins sh σ H Q I q => by obtain ⟨ρ, S, A, c, q⟩ := q; exact q.elim⟩
theorem fnD_bad {G : Gd} {k n : Nat} {f : Addr} : FnD G k f n mBadF := fun A outer s H us vs Q E _ _ _ _ _ q => by obtain ⟨S, A', ds, _, _, q⟩ := q; exact q.elim
/-- for x in e, e a list or a tuple -/
def srQ (m : ME) : Src := fun ρ S => (m ρ S).bind fun d S1 => match d with
  | .tup xs => .ok xs S1
  | .lst _ xs => .ok xs S1
  | .rol xs => .ok xs S1
  | _ => .bad
theorem si_seq {s : Sit} {tg e : Expr} {m : ME} (he : SE s e m) : SI s tg e (srQ m) := by
  have h1 : SI s tg e (srL m) := si_list he
  have h2 : SI s tg e (srT m) := si_tup he
  refine ⟨fun pins sh σ H R I q => ?_⟩
  obtain ⟨ρ, S, A, c, q⟩ := q
  cases hm : m ρ S with
  | ok d S1 =>
    cases d with
    | tup xs =>
      refine h2.run pins sh σ H R I ⟨ρ, S, A, c, ?_⟩
      have e1 : srT m ρ S = srQ m ρ S := by unfold srT srQ; rw [hm]; rfl
      rw [e1]; exact q
    | _ =>
      refine h1.run pins sh σ H R I ⟨ρ, S, A, c, ?_⟩
      have e1 : srL m ρ S = srQ m ρ S := by unfold srL srQ; rw [hm]; rfl
      rw [e1]; exact q
  | exc x fs S1 =>
    refine h1.run pins sh σ H R I ⟨ρ, S, A, c, ?_⟩
    have e1 : srL m ρ S = srQ m ρ S := by unfold srL srQ; rw [hm]; rfl
    rw [e1]; exact q
  | bad =>
    refine h1.run pins sh σ H R I ⟨ρ, S, A, c, ?_⟩
    have e1 : srL m ρ S = srQ m ρ S := by unfold srL srQ; rw [hm]; rfl
    rw [e1]; exact q

/-! ### an expression that only reads: all cells lent as values -/
def frz (S : Store) : Option D → Option D
  | some (.loc n) => match S[n]? with
    | some (some (.lst _ xs)) => some (.lst false xs)
    | some (some (.dct _ k)) => some (.dct false k)
    | _ => none
  | x => x
mutual
def noL : D → Bool
  | .non => true
  | .bl _ => true
  | .int _ => true
  | .str _ => true
  | .tup xs => noLs xs
  | _ => false
def noLs : List D → Bool
  | [] => true
  | d :: ds => noL d && noLs ds
end
def okF : D → Bool
  | .lst true xs => noLs xs
  | d => noL d
def nils (S : Store) : Store := S.map fun _ => none
def mFrz (m : ME) : ME := fun ρ S => match m (ρ.map (frz S)) (nils S) with
  | .ok d _ => if okF d then .ok d S else .bad
  | _ => .bad
def mFrzT (m : MT) : MT := fun ρ S => match m (ρ.map (frz S)) (nils S) with
  | .ok b _ => .ok b S
  | _ => .bad
section
variable {K : PySem.W.Frag} {H : Hp} {O O' : Ow}
mutual
theorem Rp.noL : ∀ {v : V} {d : D}, Dv.noL d = true → Rp K H O v d → Rp K H O' v d
  | _, _, _, .non => .non
  | _, _, _, .bl b => .bl b
  | _, _, _, .int i => .int i
  | _, _, _, .str x => .str x
  | _, _, h, .tup a r => .tup a (RpAll.noLs h r)
  | _, _, h, .ty _ => nomatch h
  | _, _, h, .adr _ => nomatch h
  | _, _, h, .lst _ _ _ => nomatch h
  | _, _, h, .obj _ _ => nomatch h
  | _, _, h, .rol _ _ => nomatch h
  | _, _, h, .dct _ _ _ => nomatch h
theorem RpAll.noLs : ∀ {vs : List V} {ds : List D}, Dv.noLs ds = true → RpAll K H O vs ds → RpAll K H O' vs ds
  | _, _, _, .nil => .nil
  | _, _, h, .cons r t => by
    have h := Bool.and_eq_true_iff.mp h
    exact .cons (Rp.noL h.1 r) (RpAll.noLs h.2 t)
end
end
section
variable {s : Sit} {ρ : Rho} {S S1 : Store} {A : Wy} {σ : St} {H H1 : Hp}
theorem nils_get {n : Nat} {d : D} : (nils S)[n]? ≠ some (some d) := fun h => by
  unfold nils at h
  rw [List.getElem?_map] at h
  cases e : S[n]? <;> rw [e] at h <;> cases h
theorem nils_ownC {a : Addr} (z : OwC A (nils S) a) : False := by
  obtain ⟨n, d, h, _⟩ := z
  exact nils_get h
theorem nils_own {a : Addr} (z : Own A (nils S) a) : Own A S a := z.elim (fun z => (nils_ownC z).elim) .inr
theorem cn_frz (c : Cn s ρ S A σ H) : Cn s (ρ.map (frz S)) (nils S) A σ H := by
  refine ⟨fun i d q => ?_, ⟨fun n d h => (nils_get h).elim, fun n m d e h => (nils_get h).elim, c.cells.phs, fun a _ z => nils_ownC z⟩, fun i n q => ?_, by rw [List.length_map]; exact c.len, by rw [List.length_map]; unfold nils; rw [List.length_map]; exact c.room⟩
  · rw [List.getElem?_map] at q
    cases e : ρ[i]? with
    | none => rw [e] at q; cases q
    | some x =>
      rw [e] at q
      cases x with
      | none => cases q
      | some x =>
        obtain ⟨v, h1, h2⟩ := c.slot i x e
        refine ⟨v, h1, ?_⟩
        have q : frz S (some x) = some d := by simpa using q
        rcases h2 with ⟨n, y, rfl, rfl, h3⟩ | r | ⟨k, fs, dd, rfl, e2, e3⟩
        · have cc := c.cells.at_ n y h3
          have np : ¬ Own A (nils S) (A.loc n) := fun z => z.elim (fun z => nils_ownC z) fun z => c.cells.apart _ z ⟨n, y, h3, rfl⟩
          simp only [frz, h3] at q
          cases cc with
          | lst g1 g2 => cases q; exact .inr (.inl (.lst np g1 (g2.ext c.cells.owns (.refl _ _) fun x z => .inl (nils_own z))))
          | dct g1 g2 => cases q; exact .inr (.inl (.dct np g1 (RpKV.ext c.cells.owns (.refl _ _) (fun x z => .inl (nils_own z)) g2)))
          | tab _ _ => cases q
        · have : d = x := by cases r <;> (simp only [frz] at q; cases q; rfl)
          subst this
          exact .inr (.inl (r.ext c.cells.owns (.refl _ _) fun x z => .inl (nils_own z)))
        · cases q
          exact .inr (.inr ⟨k, fs, dd, rfl, e2, e3.ext c.cells.owns (.refl _ _) fun x z => .inl (nils_own z)⟩)
  · rw [List.getElem?_map] at q
    cases e : ρ[i]? with
    | none => rw [e] at q; cases q
    | some x =>
      rw [e] at q
      have q : frz S x = some (.loc n) := by simpa using q
      exfalso
      unfold frz at q
      split at q
      · split at q <;> cases q
      · exact ‹∀ n, x = some (.loc n) → False› n q
theorem frz_same (p : Pst s.X.K A (nils S) H S1 H1) : Same H H1 := fun a o h => p.ext a o h fun z => nils_ownC z
theorem st_frz {e : Expr} {m : MT} (h : ST s e m) : ST s e (mFrzT m) := by
  refine PT.weak h fun σ H Q q => ?_
  obtain ⟨ρ, S, A, c, q⟩ := q
  refine ⟨_, _, A, cn_frz c, ?_⟩
  unfold mFrzT at q
  cases hm : m (ρ.map (frz S)) (nils S) with
  | ok b S1 => rw [hm] at q; intro H1 p; exact q H1 (.of_same c.cells (frz_same p))
  | exc x fs S1 => rw [hm] at q; exact q.elim
  | bad => rw [hm] at q; exact q.elim
theorem se_frz {e : Expr} {m : ME} (h : SE s e m) : SE s e (mFrz m) := by
  refine PE.weak h fun σ H Q q => ?_
  obtain ⟨ρ, S, A, c, q⟩ := q
  refine ⟨_, _, A, cn_frz c, ?_⟩
  unfold mFrz at q
  cases hm : m (ρ.map (frz S)) (nils S) with
  | exc x fs S1 => rw [hm] at q; exact q.elim
  | bad => rw [hm] at q; exact q.elim
  | ok d S1 =>
    rw [hm] at q
    dsimp only at q
    split at q
    case isFalse => exact q.elim
    rename_i hd
    intro v H1 p r fr
    have sm := frz_same p
    have nl : ∀ {d : D}, Dv.noL d = true → RpS s.X.K s.Z A S1 H1 v d → isNew d = false → RpS s.X.K s.Z A S H1 v d ∧ Fresh s.X.K A S H H1 v d := fun {d} h1 r2 h2 =>
      ⟨.inr (.inl (Rp.noL h1 (r2.rp (fun n z => by subst z; cases h1) fun c fs z => by subst z; cases h1))), .old h2⟩
    have key : RpS s.X.K s.Z A S H1 v d ∧ Fresh s.X.K A S H H1 v d := by
      by_cases hn : isNew d = true
      · cases d with
        | lst f ys =>
          cases f with
          | false => cases hn
          | true =>
            obtain ⟨a, rfl, ha, hc, _⟩ := fr rfl
            have na : ¬ Own A S a := fun z => by
              obtain ⟨o, ho, _⟩ := c.cells.owns a z
              rw [ha] at ho; cases ho
            cases hc with
            | lst g1 g2 => exact ⟨.inr (.inl (.lst na g1 (RpAll.noLs hd g2))), .mk c.cells sm ha (.lst g1 (RpAll.noLs hd g2))⟩
        | dct f ys => cases hd
        | _ => cases hn
      · have hn : isNew d = false := by simpa using hn
        refine nl ?_ r hn
        cases d with
        | lst f ys =>
          cases f with
          | false => exact hd
          | true => cases hn
        | _ => exact hd
    exact q v H1 (.of_same c.cells sm) key.1 key.2
end
end Dv

set_option maxHeartbeats 4000000
/-! == of own objects by their own __eq__ -/
namespace Dv
open PySem PySem.Spec PyProof.Rows L2
set_option autoImplicit false
def dEqO (c : Nat) (m : Fn) (S : Store) (d e : D) : Option D := match d, e with
  | .obj k fs, .obj k' gs => if k = c ∧ k' = c then (match m [.obj k fs, .obj k' gs] (nils S) with
    | .ok (.bl b) _ => some (.bl b)
    | _ => none) else none
  | _, _ => none
def rEqO (s : Sit) (c : Nat) (m : Fn) : R2 := fun x y H Q => ∃ A S fs gs b S1, Cells s.X.K A (nils S) H ∧ Rp s.X.K H (Own A (nils S)) x (.obj c fs) ∧ Rp s.X.K H (Own A (nils S)) y (.obj c gs) ∧
  m [.obj c fs, .obj c gs] (nils S) = .ok (.bl b) S1 ∧ ∀ H', Same H H' → Q (.bl b) H'
section
variable {s : Sit} {G : Gd} {j k c : Nat} {f : Addr} {m : Fn}
theorem cells_nils {A : Wy} {S : Store} {H : Hp} (c : Cells s.X.K A S H) : Cells s.X.K A (nils S) H :=
  ⟨fun n d h => (nils_get h).elim, fun n m d e h => (nils_get h).elim, c.phs, fun a _ z => nils_ownC z⟩
theorem sem_eqO : OpSem s (dEqO c m) (rEqO s c m) := by
  intro A S H v w d e x Q cl rd re hf q
  unfold dEqO at hf
  split at hf
  case h_2 => cases hf
  rename_i k fs k' gs
  split at hf
  case isFalse => cases hf
  rename_i hk
  obtain ⟨rfl, rfl⟩ := hk
  split at hf
  case h_2 => cases hf
  rename_i b S1 hm
  cases hf
  have fix : ∀ {v : V} {fs : List D}, RpS s.X.K s.Z A S H v (.obj k' fs) → Rp s.X.K H (Own A (nils S)) v (.obj k' fs) := fun r =>
    (r.rp (fun n z => nomatch z) fun c fs z => nomatch z).ext cl.owns (.refl _ _) fun x z => .inl (nils_own z)
  exact ⟨A, S, fs, gs, b, S1, cells_nils cl, fix rd, fix re, hm, fun H' sm => q _ H' sm (.inr (.inl (.bl b))) (.old rfl)⟩
theorem op_eqO (g : Gs G j s) (F : FnD G k f 2 m) (hj : k ≤ j) (he : PySem.W.findIn G.K (.ref (He.ga G.K (clsN c))) "__eq__" = some (some (.ref f))) (hf : PySem.W.isFn G.K (.ref f) = true) : OpR s.X (compareOp .Eq) (rEqO s c m) := by
  intro pins sh σ H x y v u Q I rx ry hq
  obtain ⟨A, S, fs, gs, b, S1, cl, r1, r2, hm, q⟩ := hq
  have hv : Vals [x, y] [v, u] := .cons rx (.cons ry .nil)
  have hsp : spD G.K G.cad m [x, y] H (fun z H' => z = .bl b ∧ Same H H') (fun _ _ _ => False) := by
    refine ⟨nils S, A, [.obj c fs, .obj c gs], by rw [← g.K]; exact cl, by rw [← g.K]; exact .cons (.inr (.inl r1)) (.cons (.inr (.inl r2)) .nil), ?_⟩
    rw [hm]
    intro z H' p rz _
    have sm : Same H H' := fun a o h => p.ext a o h fun z => nils_ownC z
    refine ⟨?_, sm⟩
    cases rz.rp (fun n z => nomatch z) fun c fs z => nomatch z
    rfl
  have run := run_D g F hj I hv rfl (fun _ _ _ z => z.elim) hsp
  cases r1 with
  | obj o1 _ =>
    cases r2 with
    | obj o2 _ =>
      cases rx
      cases ry
      obtain ⟨d1, a1, b1⟩ := o1
      obtain ⟨d2, a2, b2⟩ := o2
      obtain ⟨sl1, od1, _, J1, _⟩ := SlX.slt_inst I (.inr ⟨a1, b1⟩)
      obtain ⟨sl2, od2, _, J2, _⟩ := SlX.slt_inst I (.inr ⟨a2, b2⟩)
      obtain ⟨mm, hF⟩ := I.fr
      show wpAny (model s.X.prog s.X.w) s.X.A (richCompare .Eq _ _) (EP s.X pins σ Q) s.X.xe sh
      refine PySem.W.cmp_K (op := .Eq) (f := f) g.room.units0 hF I.ok.mod.kin J1 J2.type (by simp [PySem.W.notFirst]) (by rw [g.K]; exact he) (by rw [g.K]; exact hf) (wpAny_mono run (fun z s' hz => ?_) fun _ _ e => e)
      obtain ⟨vz, H', I', rz, ez, sm⟩ := hz
      subst ez
      cases rz
      exact ⟨.bl b, H', I', rfl, q H' sm⟩
end
/-- the class's own __eq__ -/
def eqB (K : PySem.W.Frag) (c : Nat) : Bool := decide (PySem.W.findIn K (.ref (He.ga K (clsN c))) "__eq__" = some (some (.ref (He.ma K (He.ga K (clsN c)) "__eq__")))) && PySem.W.isFn K (.ref (He.ma K (He.ga K (clsN c)) "__eq__"))
theorem eqB_ok {K : PySem.W.Frag} {c : Nat} (h : eqB K c = true) : PySem.W.findIn K (.ref (He.ga K (clsN c))) "__eq__" = some (some (.ref (He.ma K (He.ga K (clsN c)) "__eq__"))) ∧ PySem.W.isFn K (.ref (He.ma K (He.ga K (clsN c)) "__eq__")) = true := by
  unfold eqB at h
  simp only [Bool.and_eq_true, decide_eq_true_eq] at h
  exact h
end Dv

set_option maxHeartbeats 4000000
/-! defs with a star parameter -/
namespace Dv
open PySem PySem.Spec PyProof.Rows L2
set_option autoImplicit false
theorem cx_new {P : Program} {w : World} {outer : List Env} {s : Shared} {H : Hp} {h2 : Heap} {p : Addr} {rest : List V} {E : XK} {e : Value} {s' : Shared} (k : ∀ b o, s.heap.get? b = some o → h2.get? b = some o) (hp : s.heap.objs.size ≤ p) (hn : H p = none)
    (h : L2.CX P w outer (upd H p (.tup rest)) { s with heap := h2 } E e s') : L2.CX P w outer H s E e s' := by
  obtain ⟨a, B, H', cls, d, e1, fl, hok, ub, na, os, ag, hE⟩ := h
  have ne : ∀ {b : Addr} {o : Obj}, s.heap.get? b = some o → b ≠ p := fun q => Nat.ne_of_lt (Nat.lt_of_lt_of_le (Heap.lt_size q) hp)
  have ot : ∀ {b : Addr} {u : HO}, H b = some u → upd H p (.tup rest) b = some u := fun q => by rw [upd_ne (ne_of_none q hn)]; exact q
  refine ⟨a, B, H', cls, d, e1, fl, hok, ⟨fun b o q n f => ub.keep b o (k b o q) ?_ f, fun b o q f => ub.slot b o (k b o q) f, fun b o q n => ub.free b o (k b o q) ?_, fun b o q f => ub.there b o (k b o q) f, fun b xs q => ub.tups b xs (ot q), fun b o xs q => ub.frzs b o xs (ot q), fun b ps q => ub.tbls b ps (ot q)⟩, na, os, ag, hE⟩
  · rw [upd_ne (ne q)]; exact n
  · rw [upd_ne (ne q)]; exact n
section
variable {G : Gd} {k : Nat} {f : Addr} {x qual : Str} {st : Stmt} {fd : FuncData} {N ps : List Str} {b : Nat → MS}
/-- a call's rest, once its arguments are bound -/
theorem after_bind {oc od dV kV doc pm an cdv ct osl} (hfd : fd = PySem.W.fnOf x qual (defArgs st) (defBody st) (defScope st) dV kV doc pm an cdv ct) (lk : G.K.lookup f = some ⟨oc, od, .func fd, osl⟩) (hcd : PySem.W.codeIn G.K cdv qual = true) (S : FnScope N ps (defScope st))
    (hbody : ∀ (cdv : Value) (A : Around) (outer : List Env) (s : Shared) (H : Hp) (E : XK) (base : Nat), CdAt G.K f qual cdv → Gs G k (sitOf G N qual (defScope st) f cdv A outer s H E base) →
      SSs (sitOf G N qual (defScope st) f cdv A outer s H E base) (defBody st) (b base))
    {A : Around} {outer : List Env} {s : Shared} {H : Hp} {us : List Value} {vs : List V} {Q : VK} {E : XK} (hr : Room (k + 1) A) (hgd : A.guards = some []) (e0 : Env0 G.P G.w G.K G.mg G.base A outer s H) (r : Vals vs us) (hn : vs.length = ps.length) (hsp : spD G.K G.cad (mDef N.length b) vs H Q E) :
    wpAny (model G.P G.w) A.in1 (newFunctionEnv fd.scope fd.globals fd.closure (ps.zip us) (fd.qualname ++ ".<locals>.") (some f) fd.code none fd.builtins)
      (fun env s₂ => s₂.heap.NoLimit ∧ codeAny (model G.P G.w) A (.func (defBody st) env) (CR (L2.CX G.P G.w) outer G.P G.w H s Q E) s₂) (fun e s' => CR (L2.CX G.P G.w) outer G.P G.w H s Q E (.error e) s') s := by
  subst hfd
  have KX : G.K.In s.heap := e0.mod.kin.keeps fun b o e => (e0.bs b o e).1
  have lim : s.heap.NoLimit := e0.mod.nolimit.keeps fun b o e => (e0.bs b o e).1
  have hkind : ∀ y ∈ ps.zip us, (defScope st).names.lookup y.1 = some .local ∨ ((defScope st).names.lookup y.1 = some .cell ∧ ((cellsFrom (s.heap.objs.size + 1) (defScope st).names []).lookup y.1).isSome = true) := fun ⟨n, v⟩ hy => by
    rcases S.par n (List.of_mem_zip hy).1 with q | q
    · exact .inl q
    · exact .inr ⟨q, PySem.W.cellsFrom_some _ _ _ (.inl q)⟩
  refine wpAny_newFunctionEnv_cells S.kind hkind fun env he s1 x => ?_
  subst he
  refine ⟨lim.keeps x.toInCall.keep, codeAny_func ?_⟩
  obtain ⟨S0, A0, ds, c0, r0, q0⟩ := hsp
  have I : Inv (cxOf (L2.CX G.P G.w) G.P G.w G.K G.mg G.base N qual (defScope st) f cdv A outer s H E) [] (L2.start N vs) H s1 := inv_start S hr.hd e0 hn r x
  have gs : Gs G k (sitOf G N qual (defScope st) f cdv A outer s H E S0.length) :=
    ⟨rfl, rfl, rfl, rfl, rfl, rfl, hr.deeper _, hgd, rfl, takes_of rfl rfl rfl rfl, fun _ _ z => z⟩
  have ht := hbody cdv A outer s H E S0.length ⟨_, _, _, _, lk, rfl, hcd⟩ gs
  have hpl : ps.length ≤ N.length := by have := congrArg List.length S.pre; rw [List.length_take] at this; omega
  have dl : ds.length = ps.length := by rw [← r0.length]; exact hn
  -- the slots at the entry
  have cn : Cn (sitOf G N qual (defScope st) f cdv A outer s H E S0.length) (ds.map some ++ List.replicate (N.length - ds.length) none) (S0 ++ List.replicate N.length none) A0 (L2.start N vs) H := by
    have rl : ∀ {vs : List V} {ds : List D}, RpL G.K Z0 A0 S0 H vs ds → ∀ (i : Nat) (d : D), ds[i]? = some d → ∃ v, vs[i]? = some v ∧ RpS G.K Z0 A0 S0 H v d := by
      intro vs ds r
      induction r with
      | nil => intro i d h; simp at h
      | cons r t ih =>
        intro i d h
        cases i with
        | zero => simp at h; subst h; exact ⟨_, rfl, r⟩
        | succ i => obtain ⟨v, h1, h2⟩ := ih i d (by simpa using h); exact ⟨v, by simpa using h1, h2⟩
    have get : ∀ (i : Nat) (d : D), (ds.map some ++ List.replicate (N.length - ds.length) none)[i]? = some (some d) → i < ds.length ∧ ds[i]? = some d := fun i d h => by
      by_cases hi : i < ds.length
      · rw [List.getElem?_append_left (by simpa using hi), List.getElem?_map] at h
        cases e : ds[i]? with
        | none => rw [e] at h; cases h
        | some y => rw [e] at h; cases h; exact ⟨hi, rfl⟩
      · rw [List.getElem?_append_right (by simpa using hi), List.getElem?_replicate] at h
        split at h <;> cases h
    refine ⟨fun i d h => ?_, c0.nones, fun i n h => ?_, ?_, ?_⟩
    · obtain ⟨hi, hd⟩ := get i d h
      obtain ⟨v, h1, h2⟩ := rl r0 i d hd
      refine ⟨v, ?_, h2.nones⟩
      unfold L2.start
      rw [List.getElem?_append_left (by simp; omega), List.getElem?_map, h1]
      rfl
    · obtain ⟨hi, hd⟩ := get i _ h
      obtain ⟨v, h1, h2⟩ := rl r0 i _ hd
      rcases h2 with ⟨m, e, h3, h4, h5⟩ | h2 | ⟨_, _, _, _, z, _⟩
      · cases h3
        left
        rcases Nat.lt_or_ge n S0.length with z | z
        · exact z
        · rw [List.getElem?_eq_none z] at h5; cases h5
      · cases h2
      · exact z.elim
    · unfold L2.start
      simp [r0.length]
    · show S0.length + _ ≤ _
      simp only [List.length_append, List.length_map, List.length_replicate]
      omega
  refine wpAny_mono (ht.run [] s1 (L2.start N vs) H { nx := fun _ H' => Q .non H', rt := Q } I ⟨_, _, A0, cn, ?_⟩) (fun fl s' hs => ?_) fun e s' hs => hs
  · -- what the body's end says
    unfold mDef at q0
    have o0 : OwC A0 (S0 ++ List.replicate N.length none) = OwC A0 S0 := nones_own
    cases eb : b S0.length (ds.map some ++ List.replicate (N.length - ds.length) none) (S0 ++ List.replicate N.length none) with
    | bk _ _ => rw [eb] at q0; exact q0.elim
    | ct _ _ => rw [eb] at q0; exact q0.elim
    | bad => rw [eb] at q0; exact q0.elim
    | nx ρ1 S1 =>
      rw [eb] at q0
      intro σ1 H1 A1 p1 c1
      exact q0 .non H1 (p1.done c1.cells) (.inr (.inl .non)) (.old rfl)
    | exc c fs ρ1 S1 =>
      rw [eb] at q0
      intro dd σ1 H1 A1 p1 c1 ex
      refine q0 dd H1 (p1.done c1.cells) (ex.ext c1.cells.owns (.refl _ _) fun x z => .inl (take_own p1.low p1.ph z))
    | rt d S1 =>
      rw [eb] at q0
      dsimp only at q0
      intro v H1 A1 p1 c1 r1 f1
      have done : Pst G.K A0 S0 H (S1.take S0.length) H1 := p1.done c1
      have shr : ∀ x, Own A0 (S1.take S0.length) x → Own A1 S1 x := fun x z => take_own p1.low p1.ph z
      have simple : ∀ d', plain d = true → retD S0.length d S1 = some d' → d' = d ∧ RpS G.K Z0 A0 (S1.take S0.length) H1 v d ∧ Fresh G.K A0 (S1.take S0.length) H H1 v d := fun d' hp hd => by
        have : retD S0.length d S1 = some d := by cases d <;> first | rfl | (cases hp; done)
        rw [this] at hd
        cases hd
        refine ⟨rfl, .inr (.inl ((r1.plain hp).own c1.owns shr)), fun z => ?_⟩
        obtain ⟨a, e1, e2, e3, e4⟩ := f1 z
        have ow2 : Owns H1 (fun x => Own A1 S1 x ∨ x = a) := fun x w => by
          rcases w with w | w
          · exact c1.owns x w
          · subst w; exact e3.mu
        refine ⟨a, e1, e2, e3.own ow2 fun x w => w.imp (shr x) id, fun n e h => ?_⟩
        obtain ⟨h1, h2⟩ := take_get h
        rw [← p1.low n h1]
        exact (e4 n e h2).own ow2 fun x w => w.imp (shr x) id
      cases hd : retD S0.length d S1 with
      | none => rw [hd] at q0; exact q0.elim
      | some d' =>
        rw [hd] at q0
        by_cases hp : plain d = true
        · obtain ⟨rfl, h2, h3⟩ := simple d' hp hd
          exact q0 v H1 done h2 h3
        · cases d with
          | err _ _ => cases hd
          | loc n =>
            rcases r1 with ⟨m, e, h3, rfl, h5⟩ | r1 | ⟨_, _, _, z, _⟩
            · cases h3
              unfold retD at hd
              dsimp only at hd
              split at hd
              · rename_i hn
                cases hd
                refine q0 _ H1 done (.inl ⟨n, e, rfl, by rw [p1.low n hn], ?_⟩) (.old rfl)
                rw [List.getElem?_take, if_pos hn]; exact h5
              · rename_i hn
                split at hd
                · rename_i fl xs hx
                  cases hd
                  have ce := c1.at_ n _ hx
                  have notown : ¬ Own A0 (S1.take S0.length) (A1.loc n) := by
                    rintro (⟨m, e', h, z⟩ | z)
                    · obtain ⟨h1, h2⟩ := take_get h
                      have := c1.inj m n e' _ h2 hx (by rw [p1.low m h1]; exact z)
                      omega
                    · exact c1.apart _ (by rw [p1.ph]; exact z) ⟨n, _, hx, rfl⟩
                  have hfree : H (A1.loc n) = none := by
                    rcases p1.grow (A1.loc n) ⟨n, _, hx, rfl⟩ with z | z
                    · exfalso
                      rw [o0] at z
                      obtain ⟨m, e', h, z⟩ := z
                      have hm : m < S0.length := by
                        rcases Nat.lt_or_ge m S0.length with y | y
                        · exact y
                        · rw [List.getElem?_eq_none y] at h; cases h
                      have l := p1.lives m hm
                      rw [List.getElem?_append_left hm, h] at l
                      obtain ⟨d2, hd2⟩ := live_iff.mp l
                      have := c1.inj m n d2 _ hd2 hx (by rw [p1.low m hm]; exact z)
                      omega
                    · exact z
                  cases ce with
                  | lst h4 h6 =>
                    refine q0 _ H1 done (.inr (.inl (.lst notown h4 (h6.ext c1.owns (.refl _ _) fun x z => .inl (shr x z))))) fun _ => ⟨A1.loc n, rfl, hfree, ?_, fun m e' h => ?_⟩
                    · refine .lst h4 (h6.ext c1.owns (.refl _ _) fun x z => .inl ?_)
                      rcases z with z | z
                      · exact shr x z
                      · rw [z]; exact .inl ⟨n, _, hx, rfl⟩
                    · obtain ⟨h1, h2⟩ := take_get h
                      rw [← p1.low m h1]
                      refine (c1.at_ m e' h2).own c1.owns fun x z => ?_
                      rcases z with z | z
                      · exact shr x z
                      · rw [z]; exact .inl ⟨n, _, hx, rfl⟩
                · cases hd
            · cases r1
            · cases z
          | _ => exact absurd rfl hp
  · have fin : ∀ {σ' : St} {H' : Hp} {v : V} {u : Value}, Inv (cxOf (L2.CX G.P G.w) G.P G.w G.K G.mg G.base N qual (defScope st) f cdv A outer s H E) [] σ' H' s' → RelV v u → Q v H' → CE outer G.P G.w H s Q u s' :=
      fun {σ' H' v u} J rv q => ⟨v, H', J.os, J.bare, J.base, J.hok, rv, q⟩
    cases fl with
    | ret u =>
      obtain ⟨v, σ', H', J, rv, q⟩ := hs
      exact fin J rv q
    | next =>
      obtain ⟨σ', H', J, q⟩ := hs
      exact fin (v := V.non) (u := Value.none) J rfl q
    | brk =>
      obtain ⟨_, _, _, q⟩ := hs
      exact False.elim q
    | cont =>
      obtain ⟨_, _, _, q⟩ := hs
      exact False.elim q

/-- a value, not a cell or an error -/
def vplain : D → Bool
  | .loc _ => false
  | .err _ _ => false
  | _ => true
/-- the later arguments as a tuple -/
def mVarG (m : Fn) : Fn := fun ds S => match ds with
  | d :: r => if r.all vplain then m [d, .tup r] S else .bad
  | [] => .bad
theorem rpl_plain {K : PySem.W.Frag} {Z : ZT} {A : Wy} {S : Store} {H : Hp} : ∀ {vs : List V} {ds : List D}, ds.all vplain = true → RpL K Z A S H vs ds → RpAll K H (Own A S) vs ds
  | _, _, _, .nil => .nil
  | _, d :: ds, h, .cons r t => by
    simp only [List.all_cons, Bool.and_eq_true] at h
    exact .cons (r.rp (fun n z => by subst z; cases h.1) fun c fs z => by subst z; cases h.1) (rpl_plain h.2 t)
theorem fnD_ofV {pa pv : Str} {n : Nat} (F : FunD G.K x qual (defArgs st) (defBody st) (defScope st) [] [] f fd) (S : FnScope N [pa, pv] (defScope st)) (hz : n ≤ 5)
    (hb : ∀ (u : Value) (r : List Value), r.length = n → bindArgs fd ⟨u :: r, []⟩ = (newTuple r >>= fun t => pure [(pa, u), (pv, t)]))
    (hbody : ∀ (cdv : Value) (A : Around) (outer : List Env) (s : Shared) (H : Hp) (E : XK) (base : Nat), Gs G k (sitOf G N qual (defScope st) f cdv A outer s H E base) →
      SSs (sitOf G N qual (defScope st) f cdv A outer s H E base) (defBody st) (b base)) : FnD G (k + 1) f (n + 1) (mVarG (mDef N.length b)) := by
  obtain ⟨oc, od, dV, kV, doc, pm, an, cdv, ct, osl, hfd, lk, hcd, _, _⟩ := F.ex
  intro A outer s H us vs Q E hr hgd e0 r hn hsp
  obtain ⟨S0, A0, ds, c0, r0, q0⟩ := hsp
  match vs, us, ds, r, r0, hn, q0 with
  | v :: rest, u :: ur, d :: dr, .cons rv rr, .cons rd rdr, hn, q0 => ?_
  have hn' : rest.length = n := by simpa using hn
  have hl : ur.length = n := by rw [← rr.length]; exact hn'
  unfold mVarG at q0
  dsimp only at q0
  split at q0
  case isFalse => exact q0.elim
  rename_i hpl
  have hfree : H s.heap.objs.size = none := e0.hok.fresh (Nat.le_refl _)
  let tp : Obj := { cls := .type "tuple", data := .seq ur.toArray }
  let s2 : Shared := { s with heap := s.heap.push tp }
  let H2 : Hp := upd H s.heap.objs.size (.tup rest)
  have kp : ∀ c o, s.heap.get? c = some o → s2.heap.get? c = some o := fun c o e => Heap.get?_push_of_some _ e
  have un : Un (frs outer) [] H H2 s.heap s2.heap := Un.laid kp (Nat.le_refl _) hfree
  have sz : ur.length ≤ sizeLine := by rw [sizeLine_eq]; omega
  have ok2 : HOk G.P G.w H2 s2.heap := e0.hok.laid kp (Nat.le_refl _) ⟨by rw [rr.length]; exact sz, ur, rr, ⟨_, Heap.get?_push_size _ rfl, rfl, _, rfl⟩⟩
  have e2 : Env0 G.P G.w G.K G.mg G.base A outer s2 H2 := by
    constructor
    · exact e0.frames
    · exact e0.mod
    · intro c o e
      refine ⟨kp c o (e0.bs c o e).1, ?_⟩
      show upd H s.heap.objs.size (.tup rest) c = none
      rw [upd_ne (Nat.ne_of_lt (Heap.lt_size (e0.bs c o e).1))]
      exact (e0.bs c o e).2
    · have : s2.heap.objs.size = s.heap.objs.size + 1 := Heap.size_push ..
      rw [this]
      exact Nat.le_succ_of_le e0.bsz
    · exact Heap.FunFrames.of_keeps (fun c o e _ => ⟨o, kp c o e, rfl⟩) e0.funs
    · intro c hc
      obtain ⟨_, o, ho, _⟩ := e0.funs.mem hc
      show upd H s.heap.objs.size (.tup rest) c = none
      rw [upd_ne (Nat.ne_of_lt (Heap.lt_size ho))]
      exact e0.frf c hc
    · exact ok2
    · exact e0.bare
  have sm : Same H H2 := same_upd hfree
  have hsp2 : spD G.K G.cad (mDef N.length b) [v, .ref s.heap.objs.size] H2 Q E := by
    have p0 : Pst G.K A0 S0 H S0 H2 := .of_same c0 sm
    refine ⟨S0, A0, [d, .tup dr], p0.cells, .cons (rd.step c0 p0) (.cons (.inr (.inl (.tup (.inl (.inl upd_same)) ?_))) .nil), ?_⟩
    · exact (rpl_plain hpl rdr).step c0 p0
    · cases e : mDef N.length b [d, .tup dr] S0 with
      | ok y S1 => rw [e] at q0; intro w H3 p3 r3 f3; exact q0 w H3 (p0.trans p3) r3 (f3.later fun a z => by
        cases hh : H a with
        | none => rfl
        | some o => have := sm a o hh; rw [z] at this; cases this)
      | exc c fs S1 => rw [e] at q0; intro dd H3 p3 z; exact q0 dd H3 (p0.trans p3) z
      | bad => rw [e] at q0; exact q0
  have KX : G.K.In s.heap := e0.mod.kin.keeps fun b o e => (e0.bs b o e).1
  have ab := after_bind hfd lk hcd S (fun cdv A outer s H E base _ g => hbody cdv A outer s H E base g) hr hgd e2 (show Vals [v, V.ref s.heap.objs.size] [u, Value.ref s.heap.objs.size] from .cons rv (.cons rfl .nil)) rfl hsp2
  subst hfd
  refine codeAny_call_function hr.depth (KX _ _ lk) rfl S.co S.gen rfl (PySem.W.codeRec_of KX hcd) ?_
  rw [hb u ur hl]
  have conv : ∀ (rs : Result) (s' : Shared), CR (L2.CX G.P G.w) outer G.P G.w H2 s2 Q E rs s' → CR (L2.CX G.P G.w) outer G.P G.w H s Q E rs s' := fun rs s' h => by
    cases rs with
    | error e => exact cx_new kp (Nat.le_refl _) hfree h
    | ok fl =>
      cases fl with
      | ret w =>
        obtain ⟨v', H', j1, j2, j3, j4, j5, j6⟩ := h
        exact ⟨v', H', j1, j2, un.trans j3, j4, j5, j6⟩
      | next => exact h
      | brk => exact h
      | cont => exact h
  exact wpAny_bind (wpAny_newTuple (wpAny_pure (wpAny_mono ab (fun env s3 h => ⟨h.1, codeAny_mono h.2 conv⟩) fun e s' h => conv _ _ h)) sz)
end
end Dv

set_option maxHeartbeats 4000000
/-! len(set(x)), x a list or a tuple of whole numbers -/
namespace Dv
open PySem PySem.Spec PyProof.Rows L2
set_option autoImplicit false
def tLenSetN (K : PySem.W.Frag) (ta : TE) : TE := fun σ H Q => ta σ H fun x H1 => ∃ (l : Addr) (ns : List Int), x = V.ref l ∧ (SqT K H1 l (ns.map V.int) ∨ SqL K H1 l (ns.map V.int)) ∧ ns.length ≤ 1000 ∧ Q (.int (usort ns).length) H1
theorem pe_lenSetN {X : Cx} {a : Expr} {ta : TE} {p p2 q pos : Pos} (hc : X.calm = true) (hg : Gl X "len") (hm : X.mg "len" = none) (hg2 : Gl X "set") (hm2 : X.mg "set" = none) (ha : PE X a ta)
    (na : starEach [a] X.env = (false, eval a X.env) :: starEach [] X.env := by rfl) : PE X (.Call (.Name "len" p) [.Call (.Name "set" p2) [a] [] q] [] pos) (tLenSetN X.K ta) := by
  refine ⟨fun pins s σ H Q I h => ?_⟩
  refine Call_ (ld_blt I hg hm PySem.boot_len ?_)
  refine PyProof.Rows.callWith_builtin1 (PyProof.Rows.args_cons ?_ rfl) rfl rfl
  refine Call_ (ld_blt I hg2 hm2 PyProof.Rows.boot_set ?_)
  refine PyProof.Rows.callWith_type1 (PyProof.Rows.args_cons (thn (ha.run pins s σ H _ I h) fun v s1 ⟨x, H1, I1, r1, q1⟩ => PyProof.Rows.args_nil ?_) na) na rfl
  obtain ⟨l, ns, rfl, hq, h1, q1⟩ := q1
  cases r1
  have fin : ∀ (h' : Heap) (tk c : Nat), SetR X.w h' s1.heap.objs.size (fun j => decide (j ∈ ns)) c → c ≤ ns.length → (∀ b o, s1.heap.get? b = some o → h'.get? b = some o) →
      wpAny (model X.prog X.w) X.A (spliced (backTo pos (starEach [] X.env))) (fun vs s₂ => wpAny (model X.prog X.w) X.A (call (.builtin "len") (Value.ref s1.heap.objs.size :: vs)) (EP X pins σ Q) X.xe s₂) X.xe { s1 with heap := h', toks := tk } := fun h' tk c R hcn k => by
    refine PyProof.Rows.args_nil ?_
    have I2 : Inv X pins σ H1 { s1 with heap := h', toks := tk } := I1.kept k
    obtain ⟨o, es, ep, t, ho, hex, hd, g, nd, hmem, hb, hf, hn, hr, hl⟩ := R
    have pm : (es.toList.map L2.keyOf).Perm (usort ns) := (List.perm_ext_iff_of_nodup nd (asc_nodup (pw_usort ns))).mpr fun j => by
      rw [← hmem j, mem_usort]; simp
    have hlen := pm.length_eq
    rw [List.length_map, Array.length_toList] at hlen
    exact call_len_set ho hex hd hf (by omega) ⟨.int (usort ns).length, H1, I2.tok _, ⟨_, by rw [hlen]⟩, q1⟩
  rcases hq with hq | hq
  · obtain ⟨its, rv, pt, hz⟩ := I1.tuple hq
    exact call_set_tupI ns (I1.ok.hd hc) (show s1.heap.IsTuple l its.toArray from pt) (ints_of_vals rv) (by unfold scanBound; omega) fun h' tk c R hcn k => fin h' tk c R hcn k
  · obtain ⟨its, rv, pt, hz⟩ := I1.list hq
    exact call_set_lstR ns (I1.ok.hd hc) pt.isList (ints_of_vals rv) (by unfold scanBound; omega) fun h' tk c R hcn k => fin h' tk c R hcn k
def mLenSet (m : ME) : ME := fun ρ S => (m ρ S).bind fun d S1 => match (sqOf (vw S1 d)).bind intsOf with
  | some ns => if decide (ns.length ≤ 1000) then .ok (.int (usort ns).length) S1 else .bad
  | none => .bad
theorem se_lenSet {s : Sit} {a : Expr} {m : ME} {p p2 q pos : Pos} (hc : s.X.calm = true) (hg : Gl s.X "len") (hm : s.X.mg "len" = none) (hg2 : Gl s.X "set") (hm2 : s.X.mg "set" = none) (ha : SE s a m)
    (na : starEach [a] s.X.env = (false, eval a s.X.env) :: starEach [] s.X.env := by rfl) : SE s (.Call (.Name "len" p) [.Call (.Name "set" p2) [a] [] q] [] pos) (mLenSet m) := by
  refine PE.weak (pe_lenSetN hc hg hm hg2 hm2 ha na) fun σ H Q q => ?_
  obtain ⟨ρ, S, A, c, q⟩ := q
  refine tD_bind c q fun d S1 v H1 _ p1 c1 r1 _ q1 => ?_
  have q2 := q1.on c.cells p1
  split at q2
  · rename_i ns hi
    split at q2
    · rename_i hp
      rw [decide_eq_true_eq] at hp
      rw [Option.bind_eq_some_iff] at hi
      obtain ⟨ys, e, hi⟩ := hi
      have nn : ∀ k fs, vw S1 d ≠ .err k fs := fun k fs z => by rw [z] at e; cases e
      obtain ⟨a, xs, rfl, h3, h4⟩ := (r1.seen c1.cells nn).sq e
      rw [intsOf_eq hi] at h4
      rw [h4.ints] at h3
      exact ⟨a, ns, rfl, h3, hp, q2 (.int (usort ns).length) H1 (.refl c1.cells) (.inr (.inl (.int _))) (.old rfl)⟩
    · exact q2.elim
  · exact q2.elim
end Dv

set_option maxHeartbeats 4000000
/-! a def that calls what it got, then gives back (word,) -/
namespace Dv
open PySem PySem.Spec PyProof.Rows L2
set_option autoImplicit false
section
variable {s : Sit} {G : Gd} {j kr : Nat} {Ng : List Str} {x a q : Str} {sc : Scope} {cdv : Value} {h0 : ExceptHandler} {hds : List ExceptHandler} {hl : List HD} {cs : List Nat} {pos rp tp p1 p2 ep : Pos} {tx : Nat} {tc : Expr} {tv : V} {td : D}
theorem metg_BT (g : Gs G j s) (hN : Ng.Nodup) (hn0 : 0 < Ng.length) (hm : ∀ c ∈ cs, ∀ h ∈ hl, PySem.W.exmOne s.X.K (.ref (s.cad c)) (.ref (s.cad h.1)) = some (subC c h.1)) (hh : HsAll s Ng x sc (He.ga G.K x) cdv kr (h0 :: hds) hl)
    (htc : ∀ X, PE X tc (tC tv)) (hst : ∀ env, starEach [tc] env = (false, eval tc env) :: starEach [] env) (ht : ∀ K H O, Rp K H O tv td) (hs : ∀ sh H base, swapsWith (.Call (.Name a p1) [] [] p2) none ep.line (sitM s Ng x sc (He.ga G.K x) cdv sh H base).X.env = pure false) :
    MetG s.X Ng x sc (He.ga G.K x) cdv [.Try [.Expr (.Call (.Name a p1) [] [] p2) ep] (h0 :: hds) [] [] pos, .Return (some (.Tuple [tc] tx tp)) rp] a q kr (TTd s.X.K s.cad (metR (okB (.tup [td])) cs Ng.length hl)) := by
  intro f c' sh H Q tl hr act hco htl
  obtain ⟨A, S, r, cells, htl, fo⟩ := htl
  refine ⟨_, pss_cons (ps_try_hs (X := (sitM s Ng x sc (He.ga G.K x) cdv sh H S.length).X) (Wo := fun _ _ _ _ => False)
    (tb := fun W D σ H => σ[0]? = some (some (V.ref f)) ∧ H c' = some (LamX.CodeO c' q) ∧ tl (fun cl d h' => W cl d σ h') H (fun _ H2 => D.nx σ H2)) hN rfl rfl takes0
    (fun W pn xe tk => PSs.weak (pss_one (ps_expr (act W pn xe p1 p2 tk) (hs sh H S.length))) fun D σ H q => q) (hh sh H S.length hr).hs) (pss_one (ps_ret (pe_tup (pa_cons (htc _) pa_nil (hst _))))), ?_⟩
  refine ⟨start0, hco, htl _ _ (fo_of (sM := sitM s Ng x sc (He.ga G.K x) cdv sh H S.length) rfl rfl rfl rfl rfl hm hn0 (fun d d' S1 v H1 ho p rv fr fin => ?_) fo)⟩
  cases ho
  refine ⟨by show 1 ≤ sizeLine; rw [sizeLine_eq]; decide, ?_⟩
  refine new_tup (Z := Z0) p.cells (.cons (ht _ _ _) .nil) fun z H2 sm rz fz => ?_
  exact fin z H2 (p.trans (.of_same p.cells sm)) rz (.old rfl)
end
end Dv

set_option maxHeartbeats 4000000
/-! tuple targets with items of own lists among them: a[i], b, .. = .. -/
namespace Dv
open PySem PySem.Spec PyProof.Rows L2
set_option autoImplicit false
abbrev Tq := D → MS
def endQ (Q : L2.St → Hp → Prop) : Ends := { nx := Q, rt := fun _ _ => False }
def tDq (s : Sit) (t : Tq) : TG := fun v σ H Q => ∃ ρ S A d, Cn s ρ S A σ H ∧ Rp s.X.K H (Own A S) v d ∧ SOut s A S H (endQ Q) (t d ρ S)
def tDqs (s : Sit) (t : List D → MS) : TGs := fun xs σ H Q => ∃ ρ S A ds, Cn s ρ S A σ H ∧ RpAll s.X.K H (Own A S) xs ds ∧ SOut s A S H (endQ Q) (t ds ρ S)
def SQ (s : Sit) (tg : Expr) (t : Tq) : Prop := PG s.X tg (tDq s t)
def SQs (s : Sit) (ts : List Expr) (t : List D → MS) : Prop := PGs s.X ts (tDqs s t)
def qN (i : Nat) : Tq := fun d ρ S => if plain d then .nx (ρ.set i (some (cool d))) S else .bad
def qIx (o i : ME) : Tq := fun d ρ S => bindE (o ρ S) ρ fun c S1 => bindE (i ρ S1) ρ fun j S2 => setAt ρ S2 c j d
def qs0 : List D → MS := fun ds ρ S => match ds with
  | [] => .nx ρ S
  | _ => .bad
def qsC (t : Tq) (u : List D → MS) : List D → MS := fun ds ρ S => match ds with
  | d :: r => (match t d ρ S with
    | .nx ρ1 S1 => u r ρ1 S1
    | .exc c fs ρ1 S1 => .exc c fs ρ1 S1
    | _ => .bad)
  | [] => .bad
def qT (t : List D → MS) : Tq := fun d ρ S => match d with
  | .tup xs => t xs ρ S
  | _ => .bad
def mAsgQ (t : Tq) (m : ME) : MS := fun ρ S => bindE (m ρ S) ρ fun d S1 => match d with
  | .tup xs => (match t (.tup xs) ρ S1 with
    | .nx ρ1 S2 => .nx ρ1 S2
    | .exc c fs ρ1 S2 => .exc c fs ρ1 S2
    | _ => .bad)
  | _ => .bad
section
variable {s : Sit} {pos : Pos}
theorem Pss.rp {b : Nat} {A A1 : Wy} {S S1 : Store} {H H1 : Hp} {K : PySem.W.Frag} {vs : List V} {ds : List D} (c : Cells K A S H) (p : Pss b A S H A1 S1 H1) (r : RpAll K H (Own A S) vs ds) : RpAll K H1 (Own A1 S1) vs ds := by
  refine r.ext c.owns p.ext.own fun a z => ?_
  rcases z with z | z
  · exact (p.grow a z).imp .inl id
  · exact .inl (.inr (by rw [← p.ph]; exact z))
theorem sq_name {i : Nat} {x : Str} (hN : s.X.N.Nodup) (hi : s.X.N[i]? = some x) (hx : Loc s.X.env.scope x) (hf : s.X.fn x = true ∨ s.X.env.scope.names.lookup x = some .local := by first | exact .inl rfl | exact .inr rfl | assumption) : SQ s (.Name x pos) (qN i) := by
  refine PG.weak (pg_name hN hi hx hf) fun v σ H Q q => ?_
  obtain ⟨ρ, S, A, d, c, r, q⟩ := q
  unfold qN at q
  split at q
  · rename_i hp
    exact q _ H A .refl (c.setv (.inr (.inl r.cool)) fun n z => absurd z (cool_loc hp))
  · exact q.elim
theorem sq_sub {o i : Expr} {mo mi : ME} {tpos : Pos} (ho : SE s o mo) (hi : SE s i mi)
    (ha : ∀ v, assign (.Subscript o i tpos) s.X.env v = (do
      let ov ← holding [v] (eval o s.X.env)
      let iv ← holding [v, ov] (eval i s.X.env)
      standAt tpos
      holding [v, ov, iv] (setItem ov iv v)
      release [v, ov, iv] []) := by intro _; rfl) : SQ s (.Subscript o i tpos) (qIx mo mi) := by
  refine PG.weak (pg_sub ho hi set_list ha) fun v σ H Q q => ?_
  obtain ⟨ρ, S, A, d, c, r, q⟩ := q
  refine tD_bindS c q fun cc S2 w H2 _ p2 c2 r2 _ q2 => ?_
  refine tD_bindS c2 q2 fun j S3 x H3 _ p3 c3 r3 _ q3 => ?_
  have r' : RpS s.X.K s.Z A S H v d := .inr (.inl r)
  exact setAt_go (D := endQ Q) c3 (r2.step c2.cells p3) r3 ((r'.step c.cells p2).step c2.cells p3) q3
theorem sqs_nil : SQs s [] qs0 := by
  refine PGs.weak pgs_nil fun xs σ H Q q => ?_
  obtain ⟨ρ, S, A, ds, c, r, q⟩ := q
  cases ds with
  | nil => cases r; exact ⟨rfl, q σ H A .refl c⟩
  | cons _ _ => exact q.elim
theorem sqs_cons {e : Expr} {es : List Expr} {t : Tq} {u : List D → MS} (h1 : SQ s e t) (h2 : SQs s es u)
    (hs : (assignEach (e :: es) s.X.env).map (·.2) = assign e s.X.env :: (assignEach es s.X.env).map (·.2) := by rfl) : SQs s (e :: es) (qsC t u) := by
  refine PGs.weak (pgs_cons h1 h2 hs) fun xs σ H Q q => ?_
  obtain ⟨ρ, S, A, ds, c, r, q⟩ := q
  cases ds with
  | nil => exact q.elim
  | cons d ds =>
    cases r with
    | cons r rs =>
      refine ⟨_, _, rfl, ρ, S, A, d, c, r, ?_⟩
      show SOut s A S H _ (t d ρ S)
      have q : SOut s A S H (endQ Q) (match t d ρ S with
        | .nx ρ1 S1 => u ds ρ1 S1
        | .exc c fs ρ1 S1 => .exc c fs ρ1 S1
        | _ => .bad) := q
      cases e1 : t d ρ S with
      | nx ρ1 S1 => rw [e1] at q; intro σ1 H1 A1 p1 c1; exact ⟨ρ1, S1, A1, ds, c1, p1.rp c.cells rs, SOut.on p1 q⟩
      | exc k fs ρ1 S1 => rw [e1] at q; intro dd σ1 H1 A1 p1 c1 ex; exact q dd σ1 H1 A1 p1 c1 ex
      | bk _ _ => rw [e1] at q; exact q.elim
      | ct _ _ => rw [e1] at q; exact q.elim
      | rt _ _ => rw [e1] at q; exact q.elim
      | bad => rw [e1] at q; exact q.elim
/-- a tuple of n items for n targets -/
def qTn (n : Nat) (t : List D → MS) : Tq := fun d ρ S => match d with
  | .tup xs => if xs.length = n then t xs ρ S else .bad
  | _ => .bad
theorem sq_tup {es : List Expr} {k : Nat} {t : List D → MS} {n : Nat} (hc : s.X.calm = true) (h : SQs s es t)
    (hn : (assignEach es s.X.env).length = n := by rfl) (hst : (assignEach es s.X.env).findIdx? (·.1) = none := by rfl) : SQ s (.Tuple es k pos) (qTn n t) := by
  refine PG.weak (pg_tup hc h hn hst) fun v σ H Q q => ?_
  obtain ⟨ρ, S, A, d, c, r, q⟩ := q
  cases r with
  | tup ha ra =>
    unfold qTn at q
    dsimp only at q
    split at q
    · rename_i hl
      exact ⟨_, _, rfl, ha, by rw [ra.length]; exact hl, ρ, S, A, _, c, ra, q⟩
    · exact q.elim
  | _ => exact q.elim
theorem s_asgQ {tg e : Expr} {t : Tq} {m : ME} (he : SE s e m) (hg : SQ s tg t) (hs : swapsWithSole [tg] e pos.line s.X.env = pure false := by rfl) (hw : swappedStores [tg] e s.X.env = pure none := by rfl)
    (h1 : (assignEach [tg] s.X.env).map (·.2) = [assign tg s.X.env] := by rfl) : SS s (.Assign [tg] e pos) (mAsgQ t m) :=
  PS.weak (ps_asg he hg hs hw h1) fun D σ H q => by
    obtain ⟨ρ, S, A, c, q⟩ := q
    refine tD_bindS c q fun d S1 v H1 _ p1 c1 r1 _ q1 => ?_
    cases d with
    | tup xs =>
      dsimp only at q1
      refine ⟨ρ, S1, A, .tup xs, c1, r1.plain rfl, ?_⟩
      cases e1 : t (.tup xs) ρ S1 with
      | nx ρ' S' => rw [e1] at q1; exact q1
      | exc k fs ρ' S' => rw [e1] at q1; exact q1
      | bad => rw [e1] at q1; exact q1
      | bk _ _ => rw [e1] at q1; exact q1.elim
      | ct _ _ => rw [e1] at q1; exact q1.elim
      | rt _ _ => rw [e1] at q1; exact q1.elim
    | _ => exact q1.elim
end
end Dv

set_option maxHeartbeats 4000000
/-! for x in range(i, j, c) -/
namespace Dv
open PySem PySem.Spec PyProof.Rows L2
set_option autoImplicit false
def rngC (i c : Int) : Nat → List D
  | 0 => []
  | n + 1 => .int i :: rngC (i + c) c n
theorem rngC_len (c : Int) : ∀ (n : Nat) (i : Int), (rngC i c n).length = n
  | 0, _ => rfl
  | n + 1, i => by simp [rngC, rngC_len c n]
theorem rngC_get (c : Int) : ∀ (n : Nat) (i : Int) (k : Nat) (d : D), (rngC i c n)[k]? = some d → k < n ∧ d = .int (i + (k : Nat) * c)
  | 0, i, k, d, h => by simp [rngC] at h
  | n + 1, i, 0, d, h => by simp [rngC] at h; exact ⟨by omega, by rw [← h]; simp⟩
  | n + 1, i, k + 1, d, h => by
    obtain ⟨h1, h2⟩ := rngC_get c n (i + c) k d (by simpa [rngC] using h)
    refine ⟨by omega, ?_⟩
    rw [h2]
    congr 1
    rw [show ((k + 1 : Nat) : Int) = (k : Int) + 1 by omega, Int.add_mul]
    omega
def srR3 (n : MA) : Src := fun ρ S => (n ρ S).bind fun ds S1 => match ds with
  | [.int i, .int j, .int c] => if c ≠ 0 ∧ c.natAbs < 1073741824 ∧ Builtin.Range.small i j c = true ∧ 0 ≤ Builtin.Range.rangeSize i j c then .ok (rngC i c (Builtin.Range.rangeSize i j c).toNat) S1 else .bad
  | _ => .bad
theorem si_range3 {s : Sit} {tg a b c : Expr} {n : MA} {p pos : Pos} (hg : Gl s.X "range") (hm : s.X.mg "range" = none) (ha : SA s [a, b, c] n)
    (hs : starEach [a, b, c] s.X.env = (false, eval a s.X.env) :: starEach [b, c] s.X.env := by rfl) (hpl : (backTo pos (starEach [b, c] s.X.env)).any (·.1) = false := by rfl) : SI s tg (.Call (.Name "range" p) [a, b, c] [] pos) (srR3 n) := by
  refine PI.weak (pi_range3 hg hm ha hs hpl) fun σ H R q => ?_
  obtain ⟨ρ, S, A, cn, q⟩ := q
  refine tDa_bindI cn q fun ds S1 vs H1 _ p1 c1 r1 q1 => ?_
  split at q1
  · rename_i i j c _
    split at q1
    · rename_i h
      obtain ⟨h1, h2, h3, h4⟩ := h
      have ev : vs = [.int i, .int j, .int c] := by
        cases r1 with
        | cons ra rr => cases rr with
          | cons rb rr => cases rr with
            | cons rc rr =>
              cases rr
              cases ra.rp (fun n z => nomatch z) fun c fs z => nomatch z
              cases rb.rp (fun n z => nomatch z) fun c fs z => nomatch z
              cases rc.rp (fun n z => nomatch z) fun c fs z => nomatch z
              rfl
      refine ⟨i, j, c, (Builtin.Range.rangeSize i j c).toNat, ev, ⟨h1, h2, h3, by omega⟩, q1 _ H1 (.refl c1.cells) fun A' S' H' e g c' => ⟨fun k d hd => ?_, ?_⟩⟩
      · obtain ⟨k1, rfl⟩ := rngC_get _ _ _ _ _ hd
        refine ⟨k1, fun x H'' hy => ?_⟩
        obtain ⟨rfl, rfl⟩ := hy
        exact ⟨.refl _, .int _⟩
      · show _ ≤ _
        rw [rngC_len]
        exact Nat.le_refl _
    · exact q1.elim
  · exact q1.elim
end Dv
namespace Dv
open PySem PySem.Spec PyProof.Rows L2
/-- a def under another name -/
abbrev DfA (G : Gd) (x y : Str) (st : Stmt) : Prop := ∃ fd, FunD G.K y y (defArgs st) (defBody st) (defScope st) [] [] (He.ga G.K x) fd
theorem DfA.kp {G : Gd} {x y : Str} {st : Stmt} (h : DfA G x y st) : PySem.W.keepIn G.K (.ref (He.ga G.K x)) = true := by
  obtain ⟨fd, F⟩ := h
  exact F.kp
end Dv

set_option maxHeartbeats 4000000
/-! return .., own lists within: they are given away as values -/
namespace Dv
open PySem PySem.Spec PyProof.Rows L2
set_option autoImplicit false
def frzB (base : Nat) (S : Store) : Option D → Option D
  | some (.loc n) => if n < base then some (.loc n) else match S[n]? with
    | some (some (.lst _ xs)) => some (.lst false xs)
    | some (some (.dct _ k)) => some (.dct false k)
    | _ => none
  | x => x
def cutS (base : Nat) (S : Store) : Store := S.take base ++ List.replicate (S.length - base) none
def mRetF (base : Nat) (m : ME) : MS := fun ρ S => match m (ρ.map (frzB base S)) (cutS base S) with
  | .ok d S1 => .rt d S1
  | _ => .bad
section
variable {s : Sit} {ρ : Rho} {S S1 : Store} {A : Wy} {σ : St} {H H1 : Hp}
theorem cut_get {base n : Nat} {d : D} (h : (cutS base S)[n]? = some (some d)) : n < base ∧ S[n]? = some (some d) := by
  unfold cutS at h
  by_cases hn : n < (S.take base).length
  · rw [List.getElem?_append_left hn, List.getElem?_take] at h
    split at h
    · exact ⟨‹_›, h⟩
    · cases h
  · rw [List.getElem?_append_right (by omega), List.getElem?_replicate] at h
    split at h <;> cases h
theorem cut_of {base n : Nat} {d : D} (hb : n < base) (h : S[n]? = some (some d)) : (cutS base S)[n]? = some (some d) := by
  unfold cutS
  have hn : n < S.length := by
    rcases Nat.lt_or_ge n S.length with z | z
    · exact z
    · rw [List.getElem?_eq_none z] at h; cases h
  rw [List.getElem?_append_left (by rw [List.length_take]; omega), List.getElem?_take, if_pos hb]
  exact h
theorem cut_ownC {base : Nat} {a : Addr} (z : OwC A (cutS base S) a) : OwC A S a := by
  obtain ⟨n, d, h, e⟩ := z
  exact ⟨n, d, (cut_get h).2, e⟩
theorem cut_own {base : Nat} {a : Addr} (z : Own A (cutS base S) a) : Own A S a := z.imp cut_ownC id
theorem cut_len {base : Nat} : (cutS base S).length = S.length := by
  unfold cutS
  rw [List.length_append, List.length_take, List.length_replicate]
  omega
theorem cn_cut (c : Cn s ρ S A σ H) : Cn s (ρ.map (frzB s.base S)) (cutS s.base S) A σ H := by
  refine ⟨fun i d q => ?_, ⟨fun n d h => ?_, fun n m d e h h' z => c.cells.inj n m d e (cut_get h).2 (cut_get h').2 z, c.cells.phs, fun a z w => c.cells.apart a z (cut_ownC w)⟩, fun i n q => ?_, by rw [List.length_map]; exact c.len, by rw [List.length_map, cut_len]; exact c.room⟩
  · rw [List.getElem?_map] at q
    cases e : ρ[i]? with
    | none => rw [e] at q; cases q
    | some x =>
      rw [e] at q
      cases x with
      | none => cases q
      | some x =>
        obtain ⟨v, h1, h2⟩ := c.slot i x e
        refine ⟨v, h1, ?_⟩
        have q : frzB s.base S (some x) = some d := by simpa using q
        rcases h2 with ⟨n, y, rfl, rfl, h3⟩ | r | ⟨k, fs, dd, rfl, e2, e3⟩
        · unfold frzB at q
          dsimp only at q
          split at q
          · rename_i hb
            cases q
            exact .inl ⟨n, y, rfl, rfl, cut_of hb h3⟩
          · rename_i hb
            have cc := c.cells.at_ n y h3
            have np : ¬ Own A (cutS s.base S) (A.loc n) := by
              rintro (⟨m, d', h, z⟩ | z)
              · obtain ⟨m1, m2⟩ := cut_get h
                have := c.cells.inj m n d' y m2 h3 z
                omega
              · exact c.cells.apart _ z ⟨n, y, h3, rfl⟩
            rw [h3] at q
            cases cc with
            | lst g1 g2 => cases q; exact .inr (.inl (.lst np g1 (g2.ext c.cells.owns (.refl _ _) fun x z => .inl (cut_own z))))
            | dct g1 g2 => cases q; exact .inr (.inl (.dct np g1 (RpKV.ext c.cells.owns (.refl _ _) (fun x z => .inl (cut_own z)) g2)))
            | tab _ _ => cases q
        · have : d = x := by cases r <;> (simp only [frzB] at q; cases q; rfl)
          subst this
          exact .inr (.inl (r.ext c.cells.owns (.refl _ _) fun x z => .inl (cut_own z)))
        · cases q
          exact .inr (.inr ⟨k, fs, dd, rfl, e2, e3.ext c.cells.owns (.refl _ _) fun x z => .inl (cut_own z)⟩)
  · obtain ⟨h1, h2⟩ := cut_get h
    exact (c.cells.at_ n d h2).own c.cells.owns fun x z => cut_own z
  · rw [List.getElem?_map] at q
    cases e : ρ[i]? with
    | none => rw [e] at q; cases q
    | some x =>
      rw [e] at q
      have q : frzB s.base S x = some (.loc n) := by simpa using q
      unfold frzB at q
      split at q
      · split at q
        · cases q; exact .inl ‹_›
        · split at q <;> cases q
      · exact absurd q (‹∀ n, x = some (.loc n) → False› n)
theorem s_retF {e : Expr} {m : ME} {pos : Pos} (he : SE s e m) : SS s (.Return (some e) pos) (mRetF s.base m) :=
  PS.weak (ps_ret he) fun D σ H q => by
    obtain ⟨ρ, S, A, c, q⟩ := q
    refine ⟨_, _, A, cn_cut c, ?_⟩
    unfold mRetF at q
    cases e1 : m (ρ.map (frzB s.base S)) (cutS s.base S) with
    | exc _ _ _ => rw [e1] at q; exact q.elim
    | bad => rw [e1] at q; exact q.elim
    | ok d S1 =>
      rw [e1] at q
      intro v H1 p r f
      have oc : ∀ a, OwC A S1 a → OwC A S a := fun a z => cut_ownC (by rw [← p.lives.ownC A]; exact z)
      refine q v H1 A ⟨fun a o h n => p.ext a o h fun z => n (cut_ownC z), fun a z => .inl (oc a z), p.free (cn_cut c).cells, fun _ _ => rfl, rfl, fun n hn => ?_, p.len.trans cut_len⟩ p.cells r f
      rw [p.lives n]
      by_cases hs : n < S.length
      · unfold cutS
        rw [List.getElem?_append_left (by rw [List.length_take]; omega), List.getElem?_take, if_pos hn]
      · have l1 : (cutS s.base S)[n]? = none := List.getElem?_eq_none (by rw [cut_len]; omega)
        have l2 : S[n]? = none := List.getElem?_eq_none (by omega)
        rw [l1, l2]
end
end Dv

set_option maxHeartbeats 4000000
namespace Lk15
open PySem PySem.Spec PyProof.Rows L2 Dv
set_option autoImplicit false
def topS (i : Nat) : Stmt := PySem.Challenge.pw_whomet_k15_errors_of_rings_and_screens.main.body.getD i (.Pass ⟨0, 0, 0, 0⟩)
def clsS (st : Stmt) (j : Nat) : Stmt := match st with
  | .ClassDef _ _ _ b _ _ _ _ _ _ _ => b.getD j (.Pass ⟨0, 0, 0, 0⟩)
  | _ => .Pass ⟨0, 0, 0, 0⟩
abbrev s__law_bag : Stmt := topS 65
abbrev s_is_whole : Stmt := topS 12
abbrev s_is_within : Stmt := topS 13
abbrev s_is_pair_of : Stmt := topS 20
abbrev s_are_meetings : Stmt := topS 21
abbrev s_Table : Stmt := clsS (topS 22) 1
abbrev s__law_met : Stmt := topS 69
abbrev s_require_table : Stmt := topS 24
abbrev s_require_people : Stmt := topS 25
abbrev s_rows_in : Stmt := topS 23
abbrev s_require_screened : Stmt := topS 50
abbrev s_people_in : Stmt := topS 30
abbrev s_reached : Stmt := topS 45
abbrev s_is_screen_in : Stmt := topS 46
abbrev s_is_person : Stmt := topS 14
abbrev s_is_lot_of : Stmt := topS 15
abbrev s_bits : Stmt := topS 16
abbrev s_is_screen : Stmt := topS 61
abbrev s_is_least_screen : Stmt := topS 48
abbrev s_lot_of : Stmt := topS 17
abbrev s_least_screens : Stmt := topS 62
abbrev s_near_in : Stmt := topS 47
abbrev s_screen_near : Stmt := topS 63
abbrev s__law_screens : Stmt := topS 72
abbrev s_are_people : Stmt := topS 38
abbrev s_is_row_of_all : Stmt := topS 40
abbrev s_later_in : Stmt := topS 41
abbrev s_gaps_in : Stmt := topS 42
abbrev s_is_sequence_in : Stmt := topS 43
abbrev s_is_ring_in : Stmt := topS 39
abbrev s_is_ring_paper : Stmt := topS 55
abbrev s_is_ring : Stmt := topS 52
abbrev s_is_sequence : Stmt := topS 53
abbrev s__law_draw : Stmt := topS 66
abbrev s__law_one_of : Stmt := topS 67
abbrev s_all_know : Stmt := topS 31
abbrev s_is_simple_in : Stmt := topS 32
abbrev s_taken_off : Stmt := topS 33
abbrev s_sequence_in : Stmt := topS 34
abbrev s_has_ring : Stmt := topS 51
abbrev s_way_in : Stmt := topS 35
abbrev s_ring_around : Stmt := topS 36
abbrev s_ring_in : Stmt := topS 37
abbrev s_ring_paper : Stmt := topS 54
abbrev s_simple_people : Stmt := topS 56
abbrev s_can_begin : Stmt := topS 44
abbrev s_can_go_on : Stmt := topS 57
abbrev s__law_plain : Stmt := topS 70
abbrev s_require_row : Stmt := topS 49
abbrev s_gaps : Stmt := topS 58
abbrev s_patched : Stmt := topS 59
abbrev s_later_lots : Stmt := topS 60
abbrev s__law_rows : Stmt := topS 71
abbrev s__law_right : Stmt := topS 73
abbrev s_law : Stmt := topS 74
theorem sc__law_bag : FnScope ["script", "spot", "cell", "great"] ["script", "spot"] (defScope s__law_bag) := ⟨rfl, rfl, rfl, by decide +kernel, rfl, by decide +kernel, by decide +kernel⟩
theorem sc_is_whole : FnScope ["value"] ["value"] (defScope s_is_whole) := ⟨rfl, rfl, rfl, by decide +kernel, rfl, by decide +kernel, by decide +kernel⟩
theorem sc_is_within : FnScope ["value", "low", "high"] ["value", "low", "high"] (defScope s_is_within) := ⟨rfl, rfl, rfl, by decide +kernel, rfl, by decide +kernel, by decide +kernel⟩
theorem sc_is_pair_of : FnScope ["size", "value", "one"] ["size", "value"] (defScope s_is_pair_of) := ⟨rfl, rfl, rfl, by decide +kernel, rfl, by decide +kernel, by decide +kernel⟩
theorem sc_are_meetings : FnScope ["size", "value", "one", "other", "pair"] ["size", "value"] (defScope s_are_meetings) := ⟨rfl, rfl, rfl, by decide +kernel, rfl, by decide +kernel, by decide +kernel⟩
theorem sc_Table : FnScope ["self", "size", "meetings"] ["self", "size", "meetings"] (defScope s_Table) := ⟨rfl, rfl, rfl, by decide +kernel, rfl, by decide +kernel, by decide +kernel⟩
theorem sc__law_met : FnScope ["call", "error"] ["call"] (defScope s__law_met) := ⟨rfl, rfl, rfl, by decide +kernel, rfl, by decide +kernel, by decide +kernel⟩
theorem sc_require_table : FnScope ["table"] ["table"] (defScope s_require_table) := ⟨rfl, rfl, rfl, by decide +kernel, rfl, by decide +kernel, by decide +kernel⟩
theorem sc_require_people : FnScope ["table", "people", "person"] ["table", "people"] (defScope s_require_people) := ⟨rfl, rfl, rfl, by decide +kernel, rfl, by decide +kernel, by decide +kernel⟩
theorem sc_rows_in : FnScope ["table", "found", "one", "other"] ["table"] (defScope s_rows_in) := ⟨rfl, rfl, rfl, by decide +kernel, rfl, by decide +kernel, by decide +kernel⟩
theorem sc_require_screened : FnScope ["table", "one", "other"] ["table", "one", "other"] (defScope s_require_screened) := ⟨rfl, rfl, rfl, by decide +kernel, rfl, by decide +kernel, by decide +kernel⟩
theorem sc_people_in : FnScope ["number", "size", "person"] ["number", "size"] (defScope s_people_in) := ⟨rfl, rfl, rfl, by decide +kernel, rfl, by decide +kernel, by decide +kernel⟩
theorem sc_reached : FnScope ["rows", "among", "person", "found", "later", "one"] ["rows", "among", "person"] (defScope s_reached) := ⟨rfl, rfl, rfl, by decide +kernel, rfl, by decide +kernel, by decide +kernel⟩
theorem sc_is_screen_in : FnScope ["rows", "one", "other", "screen", "among"] ["rows", "one", "other", "screen"] (defScope s_is_screen_in) := ⟨rfl, rfl, rfl, by decide +kernel, rfl, by decide +kernel, by decide +kernel⟩
theorem sc_is_person : FnScope ["size", "value"] ["size", "value"] (defScope s_is_person) := ⟨rfl, rfl, rfl, by decide +kernel, rfl, by decide +kernel, by decide +kernel⟩
theorem sc_is_lot_of : FnScope ["size", "value", "one", "other"] ["size", "value"] (defScope s_is_lot_of) := ⟨rfl, rfl, rfl, by decide +kernel, rfl, by decide +kernel, by decide +kernel⟩
theorem sc_bits : FnScope ["lot", "person"] ["lot"] (defScope s_bits) := ⟨rfl, rfl, rfl, by decide +kernel, rfl, by decide +kernel, by decide +kernel⟩
theorem sc_is_screen : FnScope ["table", "one", "other", "lot"] ["table", "one", "other", "lot"] (defScope s_is_screen) := ⟨rfl, rfl, rfl, by decide +kernel, rfl, by decide +kernel, by decide +kernel⟩
theorem sc_is_least_screen : FnScope ["rows", "one", "other", "screen", "person"] ["rows", "one", "other", "screen"] (defScope s_is_least_screen) := ⟨rfl, rfl, rfl, by decide +kernel, rfl, by decide +kernel, by decide +kernel⟩
theorem sc_lot_of : FnScope ["number", "size", "person"] ["number", "size"] (defScope s_lot_of) := ⟨rfl, rfl, rfl, by decide +kernel, rfl, by decide +kernel, by decide +kernel⟩
theorem sc_least_screens : FnScope ["table", "one", "other", "found", "screen", "rows", "ends"] ["table", "one", "other"] (defScope s_least_screens) := ⟨rfl, rfl, rfl, by decide +kernel, rfl, by decide +kernel, by decide +kernel⟩
theorem sc_near_in : FnScope ["rows", "one", "other", "among", "side", "person"] ["rows", "one", "other"] (defScope s_near_in) := ⟨rfl, rfl, rfl, by decide +kernel, rfl, by decide +kernel, by decide +kernel⟩
theorem sc_screen_near : FnScope ["table", "one", "other"] ["table", "one", "other"] (defScope s_screen_near) := ⟨rfl, rfl, rfl, by decide +kernel, rfl, by decide +kernel, by decide +kernel⟩
theorem sc__law_screens : FnScope ["table", "one", "other", "lot", "told"] ["table", "one", "other", "lot"] (defScope s__law_screens) := ⟨rfl, rfl, rfl, by decide +kernel, rfl, by decide +kernel, by decide +kernel⟩
theorem sc_are_people : FnScope ["size", "value", "one"] ["size", "value"] (defScope s_are_people) := ⟨rfl, rfl, rfl, by decide +kernel, rfl, by decide +kernel, by decide +kernel⟩
theorem sc_is_row_of_all : FnScope ["table", "value"] ["table", "value"] (defScope s_is_row_of_all) := ⟨rfl, rfl, rfl, by decide +kernel, rfl, by decide +kernel, by decide +kernel⟩
theorem sc_later_in : FnScope ["table", "row", "person", "rows", "left", "found", "later", "one"] ["table", "row"] (defScope s_later_in) := ⟨rfl, rfl, rfl, by decide +kernel, rfl, by decide +kernel, by decide +kernel⟩
theorem sc_gaps_in : FnScope ["table", "row", "found", "known", "person", "later", "pair", "one"] ["table", "row"] (defScope s_gaps_in) := ⟨rfl, rfl, rfl, by decide +kernel, rfl, by decide +kernel, by decide +kernel⟩
theorem sc_is_sequence_in : FnScope ["table", "value"] ["table", "value"] (defScope s_is_sequence_in) := ⟨rfl, rfl, rfl, by decide +kernel, rfl, by decide +kernel, by decide +kernel⟩
theorem sc_is_ring_in : FnScope ["table", "value", "rows", "many", "at", "one", "far", "are_near"] ["table", "value"] (defScope s_is_ring_in) := ⟨rfl, rfl, rfl, by decide +kernel, rfl, by decide +kernel, by decide +kernel⟩
theorem sc_is_ring_paper : FnScope ["table", "value"] ["table", "value"] (defScope s_is_ring_paper) := ⟨rfl, rfl, rfl, by decide +kernel, rfl, by decide +kernel, by decide +kernel⟩
theorem sc_is_ring : FnScope ["table", "value"] ["table", "value"] (defScope s_is_ring) := ⟨rfl, rfl, rfl, by decide +kernel, rfl, by decide +kernel, by decide +kernel⟩
theorem sc_is_sequence : FnScope ["table", "value"] ["table", "value"] (defScope s_is_sequence) := ⟨rfl, rfl, rfl, by decide +kernel, rfl, by decide +kernel, by decide +kernel⟩
theorem sc__law_draw : FnScope ["bag", "total", "one", "two", "found"] ["bag", "total"] (defScope s__law_draw) := ⟨rfl, rfl, rfl, by decide +kernel, rfl, by decide +kernel, by decide +kernel⟩
theorem sc__law_one_of : FnScope ["bag", "items"] ["bag", "items"] (defScope s__law_one_of) := ⟨rfl, rfl, rfl, by decide +kernel, rfl, by decide +kernel, by decide +kernel⟩
theorem sc_all_know : FnScope ["rows", "number", "some", "person"] ["rows", "number"] (defScope s_all_know) := ⟨rfl, rfl, rfl, by decide +kernel, rfl, by decide +kernel, by decide +kernel⟩
theorem sc_is_simple_in : FnScope ["rows", "left", "person"] ["rows", "left", "person"] (defScope s_is_simple_in) := ⟨rfl, rfl, rfl, by decide +kernel, rfl, by decide +kernel, by decide +kernel⟩
theorem sc_taken_off : FnScope ["rows", "is_done", "left", "found", "some", "person"] ["rows"] (defScope s_taken_off) := ⟨rfl, rfl, rfl, by decide +kernel, rfl, by decide +kernel, by decide +kernel⟩
theorem sc_sequence_in : FnScope ["table", "found", "left"] ["table"] (defScope s_sequence_in) := ⟨rfl, rfl, rfl, by decide +kernel, rfl, by decide +kernel, by decide +kernel⟩
theorem sc_has_ring : FnScope ["table"] ["table"] (defScope s_has_ring) := ⟨rfl, rfl, rfl, by decide +kernel, rfl, by decide +kernel, by decide +kernel⟩
theorem sc_way_in : FnScope ["rows", "among", "one", "other", "layer", "seen", "later", "row", "person"] ["rows", "among", "one", "other"] (defScope s_way_in) := ⟨rfl, rfl, rfl, by decide +kernel, rfl, by decide +kernel, by decide +kernel⟩
theorem sc_ring_around : FnScope ["rows", "middle", "one", "other", "size", "among", "way"] ["rows", "middle", "one", "other"] (defScope s_ring_around) := ⟨rfl, rfl, rfl, by decide +kernel, rfl, by decide +kernel, by decide +kernel⟩
theorem sc_ring_in : FnScope ["table", "rows", "middle", "some", "at", "one", "other", "ring"] ["table"] (defScope s_ring_in) := ⟨rfl, rfl, rfl, by decide +kernel, rfl, by decide +kernel, by decide +kernel⟩
theorem sc_ring_paper : FnScope ["table", "row"] ["table"] (defScope s_ring_paper) := ⟨rfl, rfl, rfl, by decide +kernel, rfl, by decide +kernel, by decide +kernel⟩
theorem sc_simple_people : FnScope ["table", "rows", "whole", "person"] ["table"] (defScope s_simple_people) := ⟨rfl, rfl, rfl, by decide +kernel, rfl, by decide +kernel, by decide +kernel⟩
theorem sc_can_begin : FnScope ["table", "value", "person", "rows", "left"] ["table", "value"] (defScope s_can_begin) := ⟨rfl, rfl, rfl, by decide +kernel, rfl, by decide +kernel, by decide +kernel⟩
theorem sc_can_go_on : FnScope ["table", "value"] ["table", "value"] (defScope s_can_go_on) := ⟨rfl, rfl, rfl, by decide +kernel, rfl, by decide +kernel, by decide +kernel⟩
theorem sc__law_plain : FnScope ["table", "told"] ["table"] (defScope s__law_plain) := ⟨rfl, rfl, rfl, by decide +kernel, rfl, by decide +kernel, by decide +kernel⟩
theorem sc_require_row : FnScope ["table", "row"] ["table", "row"] (defScope s_require_row) := ⟨rfl, rfl, rfl, by decide +kernel, rfl, by decide +kernel, by decide +kernel⟩
theorem sc_gaps : FnScope ["table", "row"] ["table", "row"] (defScope s_gaps) := ⟨rfl, rfl, rfl, by decide +kernel, rfl, by decide +kernel, by decide +kernel⟩
theorem sc_patched : FnScope ["table", "row"] ["table", "row"] (defScope s_patched) := ⟨rfl, rfl, rfl, by decide +kernel, rfl, by decide +kernel, by decide +kernel⟩
theorem sc_later_lots : FnScope ["table", "row", "later"] ["table", "row"] (defScope s_later_lots) := ⟨rfl, rfl, rfl, by decide +kernel, rfl, by decide +kernel, by decide +kernel⟩
theorem sc__law_rows : FnScope ["table", "row", "told"] ["table", "row"] (defScope s__law_rows) := ⟨rfl, rfl, rfl, by decide +kernel, rfl, by decide +kernel, by decide +kernel⟩
theorem sc__law_right : FnScope ["bag", "table", "none", "row", "lot", "bad", "one", "other"] ["bag"] (defScope s__law_right) := ⟨rfl, rfl, rfl, by decide +kernel, rfl, by decide +kernel, by decide +kernel⟩
theorem sc_law : FnScope ["script", "at", "told", "due", "odd", "wrong", "bag", "table", "wide", "value", "turn"] ["script"] (defScope s_law) := ⟨rfl, rfl, rfl, by decide +kernel, rfl, by decide +kernel, by decide +kernel⟩
/-- what stands behind the top -/
structure Mg (G : Gd) : Prop where
  c_GREAT : ∃ t, G.mg "GREAT" = some (.int 1000000000000000000000000000000000000000000000000000000000000 t)
  c_MAX_PEOPLE : ∃ t, G.mg "MAX_PEOPLE" = some (.int 20 t)
  c_MOST_SCREENED : ∃ t, G.mg "MOST_SCREENED" = some (.int 10 t)
  c_RING : ∃ t, G.mg "RING" = some (.str "ring" t)
  c_SEQUENCE : ∃ t, G.mg "SEQUENCE" = some (.str "sequence" t)
  b_abs : G.mg "abs" = none
  b_all : G.mg "all" = none
  b_any : G.mg "any" = none
  b_bool : G.mg "bool" = none
  b_enumerate : G.mg "enumerate" = none
  b_int : G.mg "int" = none
  b_isinstance : G.mg "isinstance" = none
  b_len : G.mg "len" = none
  b_max : G.mg "max" = none
  b_min : G.mg "min" = none
  b_range : G.mg "range" = none
  b_repr : G.mg "repr" = none
  b_set : G.mg "set" = none
  b_sorted : G.mg "sorted" = none
  b_sum : G.mg "sum" = none
  b_tuple : G.mg "tuple" = none
  b_zip : G.mg "zip" = none
  g__law_bag : G.mg "_law_bag" = some (.ref (He.ga G.K "_law_bag"))
  d__law_bag : Df G "_law_bag" s__law_bag
  g_is_whole : G.mg "is_whole" = some (.ref (He.ga G.K "is_whole"))
  d_is_whole : Df G "is_whole" s_is_whole
  g_is_within : G.mg "is_within" = some (.ref (He.ga G.K "is_within"))
  d_is_within : Df G "is_within" s_is_within
  g_is_pair_of : G.mg "is_pair_of" = some (.ref (He.ga G.K "is_pair_of"))
  d_is_pair_of : Df G "is_pair_of" s_is_pair_of
  g_are_meetings : G.mg "are_meetings" = some (.ref (He.ga G.K "are_meetings"))
  d_are_meetings : Df G "are_meetings" s_are_meetings
  i_Table : ∃ fd, FunD G.K "__init__" "Table.__init__" (defArgs s_Table) (defBody s_Table) (defScope s_Table) [] [] (He.ma G.K (He.ga G.K "Table") "__init__") fd
  g__law_met : G.mg "_law_met" = some (.ref (He.ga G.K "_law_met"))
  d__law_met : Df G "_law_met" s__law_met
  g_require_table : G.mg "require_table" = some (.ref (He.ga G.K "require_table"))
  d_require_table : Df G "require_table" s_require_table
  g_require_people : G.mg "require_people" = some (.ref (He.ga G.K "require_people"))
  d_require_people : Df G "require_people" s_require_people
  g_rows_in : G.mg "rows_in" = some (.ref (He.ga G.K "rows_in"))
  d_rows_in : Df G "rows_in" s_rows_in
  g_require_screened : G.mg "require_screened" = some (.ref (He.ga G.K "require_screened"))
  d_require_screened : Df G "require_screened" s_require_screened
  g_people_in : G.mg "people_in" = some (.ref (He.ga G.K "people_in"))
  d_people_in : Df G "people_in" s_people_in
  g_reached : G.mg "reached" = some (.ref (He.ga G.K "reached"))
  d_reached : Df G "reached" s_reached
  g_is_screen_in : G.mg "is_screen_in" = some (.ref (He.ga G.K "is_screen_in"))
  d_is_screen_in : Df G "is_screen_in" s_is_screen_in
  g_is_person : G.mg "is_person" = some (.ref (He.ga G.K "is_person"))
  d_is_person : Df G "is_person" s_is_person
  g_is_lot_of : G.mg "is_lot_of" = some (.ref (He.ga G.K "is_lot_of"))
  d_is_lot_of : Df G "is_lot_of" s_is_lot_of
  g_bits : G.mg "bits" = some (.ref (He.ga G.K "bits"))
  d_bits : Df G "bits" s_bits
  g_is_screen : G.mg "is_screen" = some (.ref (He.ga G.K "is_screen"))
  d_is_screen : Df G "is_screen" s_is_screen
  g_is_least_screen : G.mg "is_least_screen" = some (.ref (He.ga G.K "is_least_screen"))
  d_is_least_screen : Df G "is_least_screen" s_is_least_screen
  g_lot_of : G.mg "lot_of" = some (.ref (He.ga G.K "lot_of"))
  d_lot_of : Df G "lot_of" s_lot_of
  g_least_screens : G.mg "least_screens" = some (.ref (He.ga G.K "least_screens"))
  d_least_screens : Df G "least_screens" s_least_screens
  g_near_in : G.mg "near_in" = some (.ref (He.ga G.K "near_in"))
  d_near_in : Df G "near_in" s_near_in
  g_screen_near : G.mg "screen_near" = some (.ref (He.ga G.K "screen_near"))
  d_screen_near : Df G "screen_near" s_screen_near
  g__law_screens : G.mg "_law_screens" = some (.ref (He.ga G.K "_law_screens"))
  d__law_screens : Df G "_law_screens" s__law_screens
  g_are_people : G.mg "are_people" = some (.ref (He.ga G.K "are_people"))
  d_are_people : Df G "are_people" s_are_people
  g_is_row_of_all : G.mg "is_row_of_all" = some (.ref (He.ga G.K "is_row_of_all"))
  d_is_row_of_all : Df G "is_row_of_all" s_is_row_of_all
  g_later_in : G.mg "later_in" = some (.ref (He.ga G.K "later_in"))
  d_later_in : Df G "later_in" s_later_in
  g_gaps_in : G.mg "gaps_in" = some (.ref (He.ga G.K "gaps_in"))
  d_gaps_in : Df G "gaps_in" s_gaps_in
  g_is_sequence_in : G.mg "is_sequence_in" = some (.ref (He.ga G.K "is_sequence_in"))
  d_is_sequence_in : Df G "is_sequence_in" s_is_sequence_in
  g_is_ring_in : G.mg "is_ring_in" = some (.ref (He.ga G.K "is_ring_in"))
  d_is_ring_in : Df G "is_ring_in" s_is_ring_in
  g_is_ring_paper : G.mg "is_ring_paper" = some (.ref (He.ga G.K "is_ring_paper"))
  d_is_ring_paper : Df G "is_ring_paper" s_is_ring_paper
  g_is_ring : G.mg "is_ring" = some (.ref (He.ga G.K "is_ring"))
  d_is_ring : Df G "is_ring" s_is_ring
  g_is_sequence : G.mg "is_sequence" = some (.ref (He.ga G.K "is_sequence"))
  d_is_sequence : Df G "is_sequence" s_is_sequence
  g__law_draw : G.mg "_law_draw" = some (.ref (He.ga G.K "_law_draw"))
  d__law_draw : Df G "_law_draw" s__law_draw
  g__law_one_of : G.mg "_law_one_of" = some (.ref (He.ga G.K "_law_one_of"))
  d__law_one_of : Df G "_law_one_of" s__law_one_of
  g_all_know : G.mg "all_know" = some (.ref (He.ga G.K "all_know"))
  d_all_know : Df G "all_know" s_all_know
  g_is_simple_in : G.mg "is_simple_in" = some (.ref (He.ga G.K "is_simple_in"))
  d_is_simple_in : Df G "is_simple_in" s_is_simple_in
  g_taken_off : G.mg "taken_off" = some (.ref (He.ga G.K "taken_off"))
  d_taken_off : Df G "taken_off" s_taken_off
  g_sequence_in : G.mg "sequence_in" = some (.ref (He.ga G.K "sequence_in"))
  d_sequence_in : Df G "sequence_in" s_sequence_in
  g_has_ring : G.mg "has_ring" = some (.ref (He.ga G.K "has_ring"))
  d_has_ring : Df G "has_ring" s_has_ring
  g_way_in : G.mg "way_in" = some (.ref (He.ga G.K "way_in"))
  d_way_in : Df G "way_in" s_way_in
  g_ring_around : G.mg "ring_around" = some (.ref (He.ga G.K "ring_around"))
  d_ring_around : Df G "ring_around" s_ring_around
  g_ring_in : G.mg "ring_in" = some (.ref (He.ga G.K "ring_in"))
  d_ring_in : Df G "ring_in" s_ring_in
  g_ring_paper : G.mg "ring_paper" = some (.ref (He.ga G.K "ring_paper"))
  d_ring_paper : Df G "ring_paper" s_ring_paper
  g_simple_people : G.mg "simple_people" = some (.ref (He.ga G.K "simple_people"))
  d_simple_people : Df G "simple_people" s_simple_people
  g_can_begin : G.mg "can_begin" = some (.ref (He.ga G.K "can_begin"))
  d_can_begin : Df G "can_begin" s_can_begin
  g_can_go_on : G.mg "can_go_on" = some (.ref (He.ga G.K "can_go_on"))
  d_can_go_on : Df G "can_go_on" s_can_go_on
  g__law_plain : G.mg "_law_plain" = some (.ref (He.ga G.K "_law_plain"))
  d__law_plain : Df G "_law_plain" s__law_plain
  g_require_row : G.mg "require_row" = some (.ref (He.ga G.K "require_row"))
  d_require_row : Df G "require_row" s_require_row
  g_gaps : G.mg "gaps" = some (.ref (He.ga G.K "gaps"))
  d_gaps : Df G "gaps" s_gaps
  g_patched : G.mg "patched" = some (.ref (He.ga G.K "patched"))
  d_patched : Df G "patched" s_patched
  g_later_lots : G.mg "later_lots" = some (.ref (He.ga G.K "later_lots"))
  d_later_lots : Df G "later_lots" s_later_lots
  g__law_rows : G.mg "_law_rows" = some (.ref (He.ga G.K "_law_rows"))
  d__law_rows : Df G "_law_rows" s__law_rows
  g__law_right : G.mg "_law_right" = some (.ref (He.ga G.K "_law_right"))
  d__law_right : Df G "_law_right" s__law_right
  d_law : Df G "law" s_law
  en_1 : G.mg (ecn 1) = some (.ref (G.cad 1))
  en_10 : G.mg (ecn 10) = some (.ref (G.cad 10))
  en_13 : G.mg (ecn 13) = some (.ref (G.cad 13))
  en_14 : G.mg (ecn 14) = some (.ref (G.cad 14))
  en_3 : G.mg (ecn 3) = some (.ref (G.cad 3))
  en_4 : G.mg (ecn 4) = some (.ref (G.cad 4))
  en_5 : G.mg (ecn 5) = some (.ref (G.cad 5))
  en_8 : G.mg (ecn 8) = some (.ref (G.cad 8))
  mk_0 : Mk G.K (He.ga G.K (clsN 0)) (He.ma G.K (He.ga G.K (clsN 0)) "__init__")
  oc_0 : OCls G 0
  sl_own_meetings : ∃ p, SlX.Slot1 G.K (He.ga G.K (clsN 0)) "own_meetings" p 0
  sl_own_size : ∃ p, SlX.Slot1 G.K (He.ga G.K (clsN 0)) "own_size" p 1
  xe_1 : XCls G 1
  xe_4 : XCls G 4
  xe_5 : XCls G 5
  xe_8 : XCls G 8
  xf_10 : XClsF G 10
  xf_13 : XClsF G 13
  xfc_10 : XfC G.K (G.cad 10)
  no_10 : PySem.W.findIn G.K (.ref (G.cad 10)) (cfn 10) = some none
  xfc_13 : XfC G.K (G.cad 13)
  no_13 : PySem.W.findIn G.K (.ref (G.cad 13)) (cfn 13) = some none
  xfc_14 : XfC G.K (G.cad 14)
  no_14 : PySem.W.findIn G.K (.ref (G.cad 14)) (cfn 14) = some none
  xm : ∀ c ∈ ([1, 4, 5, 8, 10, 13] : List Nat), ∀ k ∈ ([1, 3, 4, 5, 8, 10, 13, 14] : List Nat), PySem.W.exmOne G.K (.ref (G.cad c)) (.ref (G.cad k)) = some (subC c k)
  t__law_screens : LamX.TabB G.base G.mg (He.codeOf G.K ("_law_screens", none)) (tA G.K "_law_screens")
  t__law_plain : LamX.TabB G.base G.mg (He.codeOf G.K ("_law_plain", none)) (tA G.K "_law_plain")
  t__law_rows : LamX.TabB G.base G.mg (He.codeOf G.K ("_law_rows", none)) (tA G.K "_law_rows")
noncomputable def b__law_bag (base : Nat) : MS :=
  (mSeq (mSetV base 2 (mIf (mTB (mOp dLt (mVar 1) (mBlt cLen (aCons (mVar 0) aNil)))) (mBlt cInt (aCons (mOp dIx' (mVar 0) (mVar 1)) aNil)) (mOp dAdd (mOp dMul (mK (.int 149)) (mVar 1)) (mK (.int 83)))))
  (mSeq (mSetV base 3 (mOp dMod (mBlt cMax2 (aCons (mK (.int 0)) (aCons (mOp dSub (mBlt cAbs (aCons (mVar 2) aNil)) (mOp dPow (mK (.int 10)) (mK (.int 16)))) aNil))) (mOp dMul (mOp dPow (mK (.int 10)) (mK (.int 58))) (mOp dPow (mK (.int 10)) (mK (.int 59))))))
  (mRet (mLst (aCons (mVar 3) (aCons (mOp dAdd (mOp dAdd (mOp dAdd (mOp dMul (mOp dMod (mBlt cAbs (aCons (mVar 2) aNil)) (mK (.int 1152921504606846999))) (mK (.int 101))) (mOp dMul (mK (.int 1049)) (mVar 1))) (mOp dMul (mK (.int 59)) (mBlt cInt (aCons (mOp dLt (mVar 2) (mK (.int 0))) aNil)))) (mK (.int 29))) (aCons (mK (.int 0)) aNil)))))))
noncomputable def d__law_bag : Fn := mDef 4 b__law_bag
theorem F__law_bag {G : Gd} (M : Mg G) : FnD G 1 (He.ga G.K "_law_bag") 2 d__law_bag := by
  obtain ⟨fd, F⟩ := M.d__law_bag
  refine fnD_of (b := b__law_bag) F sc__law_bag (F.bindsN fun _ _ _ _ _ _ us hl => match us, hl with | [_, _], _ => rfl) fun cdv A outer sh H E base g => ?_
  exact (ss_cons (s_setV sc__law_bag.nd (i := 2) rfl (by first | exact .inl rfl | exact .inr rfl) (se_ifExp (st_cmp op_lt sem_lt (se_var (pv 1)) (se_callB call_len sem_len (by rfl) M.b_len bo_len (sa_cons (se_var (pv 0)) sa_nil)) (nomark _)) (se_callTy call_int1 sem_int (by rfl) M.b_int bo_int (sa_cons (se_ix ix_seq sem_ix (se_var (pv 0)) (se_var (pv 1)) (fun _ _ => rfl)) sa_nil)) (se_bin op_add2 sem_add (se_bin op_mul2 sem_mul se_int (se_var (pv 1))) se_int)))
  (ss_cons (s_setV sc__law_bag.nd (i := 3) rfl (by first | exact .inl rfl | exact .inr rfl) (se_bin op_mod sem_mod (se_callB (call_max2 g.calm) sem_max2 (by rfl) M.b_max bo_max (sa_cons se_int (sa_cons (se_bin op_sub sem_sub (se_callB call_abs sem_abs (by rfl) M.b_abs bo_abs (sa_cons (se_var (pv 2)) sa_nil)) (se_bin op_pow sem_pow se_int se_int)) sa_nil))) (se_bin op_mul2 sem_mul (se_bin op_pow sem_pow se_int se_int) (se_bin op_pow sem_pow se_int se_int))))
  (ss_one (s_ret (se_lst (sa_cons (se_var (pv 3)) (sa_cons (se_bin op_add2 sem_add (se_bin op_add2 sem_add (se_bin op_add2 sem_add (se_bin op_mul2 sem_mul (se_bin op_mod sem_mod (se_callB call_abs sem_abs (by rfl) M.b_abs bo_abs (sa_cons (se_var (pv 2)) sa_nil)) se_int) se_int) (se_bin op_mul2 sem_mul se_int (se_var (pv 1)))) (se_bin op_mul2 sem_mul se_int (se_callTy call_int1 sem_int (by rfl) M.b_int bo_int (sa_cons (se_cmp op_lt sem_lt (se_var (pv 2)) se_int (nomark _)) sa_nil)))) se_int) (sa_cons se_int sa_nil))))))))
noncomputable def b_is_whole (base : Nat) : MS :=
  (mRet (mAnd (mBlt cIsi (aCons (mVar 0) (aCons (mK (.ty "int")) aNil))) (mAnd (mNot (mBlt cIsi (aCons (mVar 0) (aCons (mK (.ty "bool")) aNil)))) (mChain dLt dLt (mUn dNeg (mK (.int 1000000000000000000000000000000000000000000000000000000000000))) (mVar 0) (mK (.int 1000000000000000000000000000000000000000000000000000000000000))))))
noncomputable def d_is_whole : Fn := mDef 1 b_is_whole
theorem F_is_whole {G : Gd} (M : Mg G) : FnD G 1 (He.ga G.K "is_whole") 1 d_is_whole := by
  obtain ⟨fd, F⟩ := M.d_is_whole
  refine fnD_of (b := b_is_whole) F sc_is_whole (F.bindsN fun _ _ _ _ _ _ us hl => match us, hl with | [_], _ => rfl) fun cdv A outer sh H E base g => ?_
  exact (ss_one (s_ret (se_and (se_callB call_isi sem_isi (by rfl) M.b_isinstance bo_isinstance (sa_cons (se_var (pv 0)) (sa_cons (se_ty (by rfl) M.b_int bo_int) sa_nil))) (se_and (se_not (se_callB call_isi sem_isi (by rfl) M.b_isinstance bo_isinstance (sa_cons (se_var (pv 0)) (sa_cons (se_ty (by rfl) M.b_bool bo_bool) sa_nil)))) (se_one (se_chain op_lt op_lt sem_lt sem_lt (se_un un_neg sem_neg (se_gint (by rfl) M.c_GREAT)) (se_var (pv 0)) (se_gint (by rfl) M.c_GREAT)))))))
noncomputable def b_is_within (base : Nat) : MS :=
  (mRet (mAnd (mCall d_is_whole 1 (aCons (mVar 0) aNil)) (mChain dLe dLe (mVar 1) (mVar 0) (mVar 2))))
noncomputable def d_is_within : Fn := mDef 3 b_is_within
theorem F_is_within {G : Gd} (M : Mg G) : FnD G 2 (He.ga G.K "is_within") 3 d_is_within := by
  obtain ⟨fd, F⟩ := M.d_is_within
  refine fnD_of (b := b_is_within) F sc_is_within (F.bindsN fun _ _ _ _ _ _ us hl => match us, hl with | [_, _, _], _ => rfl) fun cdv A outer sh H E base g => ?_
  exact (ss_one (s_ret (se_and (se_call g (F_is_whole M) (by decide) (by rfl) M.g_is_whole M.d_is_whole.kp (sa_cons (se_var (pv 0)) sa_nil)) (se_one (se_chain op_le op_le sem_le sem_le (se_var (pv 1)) (se_var (pv 0)) (se_var (pv 2)))))))
noncomputable def b_is_pair_of (base : Nat) : MS :=
  (mSeq (mIfS (mOrT (mNotT (mT (mBlt cIsi (aCons (mVar 1) (aCons (mK (.ty "tuple")) aNil))))) (mOrT (mTB (mOp dNe (mBlt cLen (aCons (mVar 1) aNil)) (mK (.int 2)))) (mNotT (mT (mBlt cAllV (aCons (mComp (srQ (mVar 1)) [2] (gN 2) tYesM (mCall d_is_within 3 (aCons (mVar 2) (aCons (mK (.int 0)) (aCons (mOp dSub (mVar 0) (mK (.int 1))) aNil))))) aNil)))))) (mRet (mK (.bl false))) mSkip)
  (mRet (mOp dLt (mOp dIx' (mVar 1) (mK (.int 0))) (mOp dIx' (mVar 1) (mK (.int 1))))))
noncomputable def d_is_pair_of : Fn := mDef 3 b_is_pair_of
theorem F_is_pair_of {G : Gd} (M : Mg G) : FnD G 3 (He.ga G.K "is_pair_of") 2 d_is_pair_of := by
  obtain ⟨fd, F⟩ := M.d_is_pair_of
  refine fnD_of (b := b_is_pair_of) F sc_is_pair_of (F.bindsN fun _ _ _ _ _ _ us hl => match us, hl with | [_, _], _ => rfl) fun cdv A outer sh H E base g => ?_
  exact (ss_cons (s_if (sw_or (st_not (st_truth (se_callB call_isi sem_isi (by rfl) M.b_isinstance bo_isinstance (sa_cons (se_var (pv 1)) (sa_cons (se_ty (by rfl) M.b_tuple bo_tuple) sa_nil))))) (sw_or (st_cmp (op_ne2 g.hu') sem_ne (se_callB call_len sem_len (by rfl) M.b_len bo_len (sa_cons (se_var (pv 1)) sa_nil)) se_int (nomark _)) (sw_or1 (st_not (st_truth (se_callB (cr_allV g.calm) sem_allV (by rfl) M.b_all bo_all (sa_cons (se_comp g.calm sc_is_pair_of.nd (si_seq (se_var (pv 1))) (own := [("one", 2)]) (blk_ok (by kernel_rfl)) rfl (fun _ _ _ _ _ => (sg_name sc_is_pair_of.nd (i := 2) rfl (by first | exact .inl rfl | exact .inr rfl) (by decide))) (fun _ _ _ _ _ => sts_nil) (fun _ _ _ _ _ => (se_call (g.blk _ _ _ _ _) (F_is_within M) (by decide) (by rfl) M.g_is_within M.d_is_within.kp (sa_cons (se_var (pv 2)) (sa_cons se_int (sa_cons (se_bin op_sub sem_sub (se_var (pv 0)) se_int) sa_nil)))))) sa_nil))))))).st (ss_one (s_ret se_bl)) ss_nil)
  (ss_one (s_ret (se_cmp op_lt sem_lt (se_ix ix_seq sem_ix (se_var (pv 1)) se_int (fun _ _ => rfl)) (se_ix ix_seq sem_ix (se_var (pv 1)) se_int (fun _ _ => rfl)) (nomark _)))))
noncomputable def b_are_meetings (base : Nat) : MS :=
  (mSeq (mIfS (mOrT (mNotT (mT (mBlt cIsi (aCons (mVar 1) (aCons (mK (.ty "tuple")) aNil))))) (mNotT (mT (mBlt cAllV (aCons (mComp (srQ (mVar 1)) [4] (gN 4) tYesM (mCall d_is_pair_of 2 (aCons (mVar 0) (aCons (mVar 4) aNil)))) aNil))))) (mRet (mK (.bl false))) mSkip)
  (mRet (mBlt cAllV (aCons (mComp (srZ (aCons (mVar 1) (aCons (mCut (mVar 1) (oSome (mK (.int 1))) oNone) aNil))) [2, 3] (gT (gsC (gN 2) (gsC (gN 3) gs0))) tYesM (mOp dLt2 (mVar 2) (mVar 3))) aNil))))
noncomputable def d_are_meetings : Fn := mDef 5 b_are_meetings
theorem F_are_meetings {G : Gd} (M : Mg G) : FnD G 4 (He.ga G.K "are_meetings") 2 d_are_meetings := by
  obtain ⟨fd, F⟩ := M.d_are_meetings
  refine fnD_of (b := b_are_meetings) F sc_are_meetings (F.bindsN fun _ _ _ _ _ _ us hl => match us, hl with | [_, _], _ => rfl) fun cdv A outer sh H E base g => ?_
  exact (ss_cons (s_if (sw_or (st_not (st_truth (se_callB call_isi sem_isi (by rfl) M.b_isinstance bo_isinstance (sa_cons (se_var (pv 1)) (sa_cons (se_ty (by rfl) M.b_tuple bo_tuple) sa_nil))))) (sw_or1 (st_not (st_truth (se_callB (cr_allV g.calm) sem_allV (by rfl) M.b_all bo_all (sa_cons (se_comp g.calm sc_are_meetings.nd (si_seq (se_var (pv 1))) (own := [("pair", 4)]) (blk_ok (by kernel_rfl)) rfl (fun _ _ _ _ _ => (sg_name sc_are_meetings.nd (i := 4) rfl (by first | exact .inl rfl | exact .inr rfl) (by decide))) (fun _ _ _ _ _ => sts_nil) (fun _ _ _ _ _ => (se_call (g.blk _ _ _ _ _) (F_is_pair_of M) (by decide) (by rfl) M.g_is_pair_of M.d_is_pair_of.kp (sa_cons (se_var (pv 0)) (sa_cons (se_var (pv 4)) sa_nil))))) sa_nil)))))).st (ss_one (s_ret se_bl)) ss_nil)
  (ss_one (s_ret (se_callB (cr_allV g.calm) sem_allV (by rfl) M.b_all bo_all (sa_cons (se_comp g.calm sc_are_meetings.nd (si_zip (by rfl) M.b_zip (sa_cons (se_var (pv 1)) (sa_cons (se_cut (se_var (pv 1)) (so_some se_int) so_none) sa_nil))) (own := [("one", 2), ("other", 3)]) (blk_ok (by kernel_rfl)) rfl (fun _ _ _ _ _ => (sg_tup (g.blk _ _ _ _ _).calm (sgs_cons (sg_name sc_are_meetings.nd (i := 2) rfl (by first | exact .inl rfl | exact .inr rfl) (by decide)) (sgs_cons (sg_name sc_are_meetings.nd (i := 3) rfl (by first | exact .inl rfl | exact .inr rfl) (by decide)) sgs_nil)) rfl rfl (gsC_len (gsC_len gs0_len)))) (fun _ _ _ _ _ => sts_nil) (fun _ _ _ _ _ => (se_cmp (op_lt2 (g.blk _ _ _ _ _).hu) sem_lt2 (se_var (pv 2)) (se_var (pv 3)) (nomark _)))) sa_nil)))))
noncomputable def d_Table : Fn := mkInit 3 0 2 1 fun base => mSeq (mIfS (mNotT (mT (mCall d_is_within 3 (aCons (mVar 1) (aCons (mK (.int 1)) (aCons (mK (.int 20)) aNil)))))) (mRaise1 10 (mVar 1)) mSkip) (mIfS (mNotT (mT (mCall d_are_meetings 2 (aCons (mVar 1) (aCons (mVar 2) aNil))))) (mRaise0 1) mSkip)
theorem I_Table {G : Gd} (M : Mg G) : InitD G 5 0 (He.ma G.K (He.ga G.K "Table") "__init__") d_Table := by
  obtain ⟨fd, F⟩ := M.i_Table
  exact init_of (k := 4) (c := 0) (j1 := 0) (j2 := 0) F sc_Table (F.bindsN fun _ _ _ _ _ _ us hl => match us, hl with | [_, _, _], _ => rfl) M.oc_0 rfl ⟨rfl, rfl, rfl⟩ ⟨by first | exact .inl rfl | exact .inr (.inl rfl), by first | exact .inl rfl | exact .inr (.inl rfl), by first | exact .inl rfl | exact .inr (.inl rfl)⟩ ⟨by decide, by decide, by decide, by decide⟩ M.sl_own_size M.sl_own_meetings (fun _ => rfl) (fun _ => rfl) fun cdv A outer s H E base x g => ⟨(s_if (st_not (st_truth (se_call g (F_is_within M) (by decide) (by rfl) M.g_is_within M.d_is_within.kp (sa_cons (se_var (pv 1)) (sa_cons se_int (sa_cons (se_gint (by rfl) M.c_MAX_PEOPLE) sa_nil)))))) (ss_one (s_raise1 g M.xf_10 rfl (by rfl) (se_var (pv 1)))) ss_nil), (s_if (st_not (st_truth (se_call g (F_are_meetings M) (by decide) (by rfl) M.g_are_meetings M.d_are_meetings.kp (sa_cons (se_var (pv 1)) (sa_cons (se_var (pv 2)) sa_nil))))) (ss_one (s_raise0 g M.xe_1 rfl (by rfl))) ss_nil)⟩
noncomputable def hl__law_met : List HD := [(1, none, (mRet (mTup (aCons (mK (.str "table")) aNil)))), (4, none, (mRet (mTup (aCons (mK (.str "lot")) aNil)))), (3, none, (mRet (mTup (aCons (mK (.str "visits")) aNil)))), (5, none, (mRet (mTup (aCons (mK (.str "order")) aNil)))), (8, none, (mRet (mTup (aCons (mK (.str "operation")) aNil)))), (10, some 1, (mRet (mTup (aCons (mK (.str "number")) (aCons (mErrF 10 (mVar 1)) aNil))))), (13, some 1, (mRet (mTup (aCons (mK (.str "many")) (aCons (mErrF 13 (mVar 1)) aNil))))), (14, some 1, (mRet (mTup (aCons (mK (.str "refused")) (aCons (mErrF 14 (mVar 1)) aNil)))))]
noncomputable def mr__law_met : Res D → Res D := metR (okB (.tup [(.str "fine")])) [1, 4, 5, 8, 10, 13] 2 hl__law_met
theorem vis__law_met : Vis (defScope s__law_met) "call" := by first | exact .inl rfl | exact .inr (.inl rfl)
theorem xm__law_met {G : Gd} (M : Mg G) {s : Sit} {j : Nat} (g : Gs G j s) : ∀ c ∈ ([1, 4, 5, 8, 10, 13] : List Nat), ∀ h ∈ hl__law_met, PySem.W.exmOne s.X.K (.ref (s.cad c)) (.ref (s.cad h.1)) = some (subC c h.1) := fun c hc h hh => by
  rw [g.K, g.cad]
  exact M.xm c hc h.1 (by simp only [hl__law_met, List.mem_cons, List.mem_nil_iff, or_false] at hh; rcases hh with rfl | rfl | rfl | rfl | rfl | rfl | rfl | rfl <;> decide)
theorem G__law_met {G : Gd} (M : Mg G) {s : Sit} {j kr : Nat} (g : Gs G j s) (cdv : Value) (q : Str) : MetG s.X ["call", "error"] "_law_met" (defScope s__law_met) (He.ga G.K "_law_met") cdv (defBody s__law_met) "call" q kr (TTd s.X.K s.cad mr__law_met) := by
  have e_1 : s.X.mg (ecn 1) = some (.ref (s.cad 1)) := by rw [g.mg, g.cad]; exact M.en_1
  have e_4 : s.X.mg (ecn 4) = some (.ref (s.cad 4)) := by rw [g.mg, g.cad]; exact M.en_4
  have e_3 : s.X.mg (ecn 3) = some (.ref (s.cad 3)) := by rw [g.mg, g.cad]; exact M.en_3
  have e_5 : s.X.mg (ecn 5) = some (.ref (s.cad 5)) := by rw [g.mg, g.cad]; exact M.en_5
  have e_8 : s.X.mg (ecn 8) = some (.ref (s.cad 8)) := by rw [g.mg, g.cad]; exact M.en_8
  have e_10 : s.X.mg (ecn 10) = some (.ref (s.cad 10)) := by rw [g.mg, g.cad]; exact M.en_10
  have xfc_10 : XfC s.X.K (s.cad 10) := by rw [g.K, g.cad]; exact M.xfc_10
  have no_10 : PySem.W.findIn s.X.K (.ref (s.cad 10)) (cfn 10) = some none := by rw [g.K, g.cad]; exact M.no_10
  have e_13 : s.X.mg (ecn 13) = some (.ref (s.cad 13)) := by rw [g.mg, g.cad]; exact M.en_13
  have xfc_13 : XfC s.X.K (s.cad 13) := by rw [g.K, g.cad]; exact M.xfc_13
  have no_13 : PySem.W.findIn s.X.K (.ref (s.cad 13)) (cfn 13) = some none := by rw [g.K, g.cad]; exact M.no_13
  have e_14 : s.X.mg (ecn 14) = some (.ref (s.cad 14)) := by rw [g.mg, g.cad]; exact M.en_14
  have xfc_14 : XfC s.X.K (s.cad 14) := by rw [g.K, g.cad]; exact M.xfc_14
  have no_14 : PySem.W.findIn s.X.K (.ref (s.cad 14)) (cfn 14) = some none := by rw [g.K, g.cad]; exact M.no_14
  exact metg_BT g (by decide) (by decide) (xm__law_met M g) (fun sh H base hr => (.one ⟨by rfl, by decide, .inl e_1⟩ (fun q ob cl dd pn hz hf => (ss_one (s_ret (se_tup (sa_cons se_str sa_nil))))) (.one ⟨by rfl, by decide, .inl e_4⟩ (fun q ob cl dd pn hz hf => (ss_one (s_ret (se_tup (sa_cons se_str sa_nil))))) (.one ⟨by rfl, by decide, .inl e_3⟩ (fun q ob cl dd pn hz hf => (ss_one (s_ret (se_tup (sa_cons se_str sa_nil))))) (.one ⟨by rfl, by decide, .inl e_5⟩ (fun q ob cl dd pn hz hf => (ss_one (s_ret (se_tup (sa_cons se_str sa_nil))))) (.one ⟨by rfl, by decide, .inl e_8⟩ (fun q ob cl dd pn hz hf => (ss_one (s_ret (se_tup (sa_cons se_str sa_nil))))) (.nam (i := 1) ⟨by rfl, by decide, .inl e_10⟩ rfl rfl (fun q ob cl dd pn hz hf => (ss_one (s_ret (se_tup (sa_cons se_str (sa_cons (se_errF rfl hz hf xfc_10 no_10 (se_var (pv 1))) sa_nil)))))) (.nam (i := 1) ⟨by rfl, by decide, .inl e_13⟩ rfl rfl (fun q ob cl dd pn hz hf => (ss_one (s_ret (se_tup (sa_cons se_str (sa_cons (se_errF rfl hz hf xfc_13 no_13 (se_var (pv 1))) sa_nil)))))) (.nam (i := 1) ⟨by rfl, by decide, .inl e_14⟩ rfl rfl (fun q ob cl dd pn hz hf => (ss_one (s_ret (se_tup (sa_cons se_str (sa_cons (se_errF rfl hz hf xfc_14 no_14 (se_var (pv 1))) sa_nil)))))) .nil))))))))) (fun X => pe_str) (fun _ => rfl) (fun _ _ _ => .str _) (fun _ _ _ => rfl)
noncomputable def b_require_table (base : Nat) : MS :=
  (mIfS (mNotT (mT (mIsO 0 (mVar 0)))) (mRaise0 1) mSkip)
noncomputable def d_require_table : Fn := mDef 1 b_require_table
theorem F_require_table {G : Gd} (M : Mg G) : FnD G 1 (He.ga G.K "require_table") 1 d_require_table := by
  obtain ⟨fd, F⟩ := M.d_require_table
  refine fnD_of (b := b_require_table) F sc_require_table (F.bindsN fun _ _ _ _ _ _ us hl => match us, hl with | [_], _ => rfl) fun cdv A outer sh H E base g => ?_
  exact (ss_one (s_if (st_not (st_truth (se_isO g M.oc_0 rfl (by rfl) (by rfl) M.b_isinstance (se_var (pv 0))))) (ss_one (s_raise0 g M.xe_1 rfl (by rfl))) ss_nil))
noncomputable def b_require_people (base : Nat) : MS :=
  (mSeq (mDrop (mCall d_require_table 1 (aCons (mVar 0) aNil)))
  (mFor (srQ (mVar 1)) (gN 2) (mIfS (mNotT (mT (mCall d_is_within 3 (aCons (mVar 2) (aCons (mK (.int 0)) (aCons (mOp dSub (mFld 0 1 (mVar 0)) (mK (.int 1))) aNil)))))) (mRaise1 10 (mVar 2)) mSkip)))
noncomputable def d_require_people : Fn := mDef 3 b_require_people
theorem F_require_people {G : Gd} (M : Mg G) {n : Nat} (hz : n ≤ 2) : FnD G 3 (He.ga G.K "require_people") (n + 1) (mVarG d_require_people) := by
  obtain ⟨fd, F⟩ := M.d_require_people
  refine fnD_ofV (b := b_require_people) F sc_require_people (Nat.le_trans hz (by decide)) (fun u r hr => ?_) fun cdv A outer sh H E base g => ?_
  · obtain ⟨_, _, dV, _, _, _, _, _, _, _, rfl, _, _, hD, _⟩ := F.ex
    rcases hD with ⟨_, rfl⟩ | ⟨e, _⟩
    · match r, (show r.length ≤ 2 by omega) with
      | [], _ => rfl
      | [_], _ => rfl
      | [_, _], _ => rfl
      | _ :: _ :: _ :: _, h => exact absurd h (by simp only [List.length_cons]; omega)
    · exact absurd rfl e
  exact (ss_cons (s_expr (se_call g (F_require_table M) (by decide) (by rfl) M.g_require_table M.d_require_table.kp (sa_cons (se_var (pv 0)) sa_nil)))
  (ss_one (s_for (passes_of rfl) g.calm (si_seq (se_var (pv 1))) (sg_name sc_require_people.nd (i := 2) rfl (by first | exact .inl rfl | exact .inr rfl) (by decide)) (ss_one (s_if (st_not (st_truth (se_call g (F_is_within M) (by decide) (by rfl) M.g_is_within M.d_is_within.kp (sa_cons (se_var (pv 2)) (sa_cons se_int (sa_cons (se_bin op_sub sem_sub (se_fld g M.oc_0 M.sl_own_size (se_var (pv 0))) se_int) sa_nil)))))) (ss_one (s_raise1 g M.xf_10 rfl (by rfl) (se_var (pv 2)))) ss_nil)) (vs := [2]))))
noncomputable def b_rows_in (base : Nat) : MS :=
  (mSeq (mSetO base 1 (mOp dMul (mLst (aCons (mK (.int 0)) aNil)) (mFld 0 1 (mVar 0))))
  (mSeq (mFor (srQ (mFld 0 0 (mVar 0))) (gT (gsC (gN 2) (gsC (gN 3) gs0))) (mSeq (mAugIx dOr (mVar 1) (mVar 2) (mOp dShl (mK (.int 1)) (mVar 3)))
  (mAugIx dOr (mVar 1) (mVar 3) (mOp dShl (mK (.int 1)) (mVar 2)))))
  (mRet (mVar 1))))
noncomputable def d_rows_in : Fn := mDef 4 b_rows_in
theorem F_rows_in {G : Gd} (M : Mg G) : FnD G 1 (He.ga G.K "rows_in") 1 d_rows_in := by
  obtain ⟨fd, F⟩ := M.d_rows_in
  refine fnD_of (b := b_rows_in) F sc_rows_in (F.bindsN fun _ _ _ _ _ _ us hl => match us, hl with | [_], _ => rfl) fun cdv A outer sh H E base g => ?_
  exact (ss_cons (s_setO sc_rows_in.nd (i := 1) rfl (by first | exact .inl rfl | exact .inr rfl) (se_bin op_mul2 sem_mul (se_lst (sa_cons se_int sa_nil)) (se_fld g M.oc_0 M.sl_own_size (se_var (pv 0)))))
  (ss_cons (s_for (passes_of rfl) g.calm (si_seq (se_fld g M.oc_0 M.sl_own_meetings (se_var (pv 0)))) (sg_tup g.calm (sgs_cons (sg_name sc_rows_in.nd (i := 2) rfl (by first | exact .inl rfl | exact .inr rfl) (by decide)) (sgs_cons (sg_name sc_rows_in.nd (i := 3) rfl (by first | exact .inl rfl | exact .inr rfl) (by decide)) sgs_nil)) rfl rfl (gsC_len (gsC_len gs0_len))) (ss_cons (s_augIx (se_var (pv 1)) (se_var (pv 2)) (se_bin op_shl sem_shl se_int (se_var (pv 3))) iop_or sem_bor)
  (ss_one (s_augIx (se_var (pv 1)) (se_var (pv 3)) (se_bin op_shl sem_shl se_int (se_var (pv 2))) iop_or sem_bor))) (vs := [2, 3]))
  (ss_one (s_ret (se_var (pv 1))))))
noncomputable def b_require_screened (base : Nat) : MS :=
  (mIfS (mOrT (mTB (mOp dEq (mVar 1) (mVar 2))) (mT (mOp dAnd (mOp dShr (mOp dIx' (mCall d_rows_in 1 (aCons (mVar 0) aNil)) (mVar 1)) (mVar 2)) (mK (.int 1))))) (mRaise0 8) mSkip)
noncomputable def d_require_screened : Fn := mDef 3 b_require_screened
theorem F_require_screened {G : Gd} (M : Mg G) : FnD G 2 (He.ga G.K "require_screened") 3 d_require_screened := by
  obtain ⟨fd, F⟩ := M.d_require_screened
  refine fnD_of (b := b_require_screened) F sc_require_screened (F.bindsN fun _ _ _ _ _ _ us hl => match us, hl with | [_, _, _], _ => rfl) fun cdv A outer sh H E base g => ?_
  exact (ss_one (s_if (sw_or (st_cmp (op_eq2 g.hu') sem_eq (se_var (pv 1)) (se_var (pv 2)) (nomark _)) (sw_or1 (st_truth (se_bin op_and sem_band (se_bin op_shr sem_shr (se_ix ix_seq sem_ix (se_call g (F_rows_in M) (by decide) (by rfl) M.g_rows_in M.d_rows_in.kp (sa_cons (se_var (pv 0)) sa_nil)) (se_var (pv 1)) (fun _ _ => rfl)) (se_var (pv 2))) se_int)))).st (ss_one (s_raise0 g M.xe_8 rfl (by rfl))) ss_nil))
noncomputable def b_people_in (base : Nat) : MS :=
  (mRet (mComp (srR1 (aCons (mVar 1) aNil)) [2] (gN 2) (mT (mOp dAnd (mOp dShr (mVar 0) (mVar 2)) (mK (.int 1)))) (mVar 2)))
noncomputable def d_people_in : Fn := mDef 3 b_people_in
theorem F_people_in {G : Gd} (M : Mg G) : FnD G 1 (He.ga G.K "people_in") 2 d_people_in := by
  obtain ⟨fd, F⟩ := M.d_people_in
  refine fnD_of (b := b_people_in) F sc_people_in (F.bindsN fun _ _ _ _ _ _ us hl => match us, hl with | [_, _], _ => rfl) fun cdv A outer sh H E base g => ?_
  exact (ss_one (s_ret (se_comp g.calm sc_people_in.nd (si_range1 (by rfl) M.b_range (sa_cons (se_var (pv 1)) sa_nil)) (own := [("person", 2)]) (blk_ok (by kernel_rfl)) rfl (fun _ _ _ _ _ => (sg_name sc_people_in.nd (i := 2) rfl (by first | exact .inl rfl | exact .inr rfl) (by decide))) (fun _ _ _ _ _ => (sts_one (st_truth (se_bin op_and sem_band (se_bin op_shr sem_shr (se_var (pv 0)) (se_var (pv 2))) se_int)))) (fun _ _ _ _ _ => (se_var (pv 2))))))
noncomputable def b_reached (base : Nat) : MS :=
  (mSeq (mPar base 3 4 false (mOp dShl (mK (.int 1)) (mVar 2)) (mK (.int 0)))
  (mSeq (mWhile (mTB (mOp dNe (mVar 3) (mVar 4))) (mSeq (mSetV base 4 (mVar 3))
  (mFor (srL (mCall d_people_in 2 (aCons (mVar 4) (aCons (mBlt cLen (aCons (mVar 0) aNil)) aNil)))) (gN 5) (mAug dOr base 3 (mOp dAnd (mOp dIx' (mVar 0) (mVar 5)) (mVar 1))))) 1000000)
  (mRet (mVar 3))))
noncomputable def d_reached : Fn := mDef 6 b_reached
theorem F_reached {G : Gd} (M : Mg G) : FnD G 2 (He.ga G.K "reached") 3 d_reached := by
  obtain ⟨fd, F⟩ := M.d_reached
  refine fnD_of (b := b_reached) F sc_reached (F.bindsN fun _ _ _ _ _ _ us hl => match us, hl with | [_, _, _], _ => rfl) fun cdv A outer sh H E base g => ?_
  exact (ss_cons (s_par g.calm sc_reached.nd (i := 3) (j := 4) rfl rfl (by decide) rfl rfl (se_bin op_shl sem_shl se_int (se_var (pv 2))) se_int rfl (oj := false))
  (ss_cons (s_while (passes_of rfl) (st_cmp (op_ne2 g.hu') sem_ne (se_var (pv 3)) (se_var (pv 4)) (nomark _)) (ss_cons (s_setV sc_reached.nd (i := 4) rfl (by first | exact .inl rfl | exact .inr rfl) (se_var (pv 3)))
  (ss_one (s_for (passes_of rfl) g.calm (si_list (se_call g (F_people_in M) (by decide) (by rfl) M.g_people_in M.d_people_in.kp (sa_cons (se_var (pv 4)) (sa_cons (se_callB call_len sem_len (by rfl) M.b_len bo_len (sa_cons (se_var (pv 0)) sa_nil)) sa_nil)))) (sg_name sc_reached.nd (i := 5) rfl (by first | exact .inl rfl | exact .inr rfl) (by decide)) (ss_one (s_aug sc_reached.nd (k := 3) rfl (by first | exact .inl rfl | exact .inr rfl) (se_bin op_and sem_band (se_ix ix_seq sem_ix (se_var (pv 0)) (se_var (pv 5)) (fun _ _ => rfl)) (se_var (pv 1))) iop_or sem_bor)) (vs := [5])))))
  (ss_one (s_ret (se_var (pv 3))))))
noncomputable def b_is_screen_in (base : Nat) : MS :=
  (mSeq (mSetV base 4 (mOp dAnd (mOp dSub (mOp dShl (mK (.int 1)) (mBlt cLen (aCons (mVar 0) aNil))) (mK (.int 1))) (mUn dInv (mVar 3))))
  (mRet (mOp dEq (mOp dAnd (mOp dShr (mCall d_reached 3 (aCons (mVar 0) (aCons (mVar 4) (aCons (mVar 1) aNil)))) (mVar 2)) (mK (.int 1))) (mK (.int 0)))))
noncomputable def d_is_screen_in : Fn := mDef 5 b_is_screen_in
theorem F_is_screen_in {G : Gd} (M : Mg G) : FnD G 3 (He.ga G.K "is_screen_in") 4 d_is_screen_in := by
  obtain ⟨fd, F⟩ := M.d_is_screen_in
  refine fnD_of (b := b_is_screen_in) F sc_is_screen_in (F.bindsN fun _ _ _ _ _ _ us hl => match us, hl with | [_, _, _, _], _ => rfl) fun cdv A outer sh H E base g => ?_
  exact (ss_cons (s_setV sc_is_screen_in.nd (i := 4) rfl (by first | exact .inl rfl | exact .inr rfl) (se_bin op_and sem_band (se_bin op_sub sem_sub (se_bin op_shl sem_shl se_int (se_callB call_len sem_len (by rfl) M.b_len bo_len (sa_cons (se_var (pv 0)) sa_nil))) se_int) (se_un un_inv sem_inv (se_var (pv 3)))))
  (ss_one (s_ret (se_cmp (op_eq2 g.hu') sem_eq (se_bin op_and sem_band (se_bin op_shr sem_shr (se_call g (F_reached M) (by decide) (by rfl) M.g_reached M.d_reached.kp (sa_cons (se_var (pv 0)) (sa_cons (se_var (pv 4)) (sa_cons (se_var (pv 1)) sa_nil)))) (se_var (pv 2))) se_int) se_int (nomark _)))))
noncomputable def b_is_person (base : Nat) : MS :=
  (mRet (mCall d_is_within 3 (aCons (mVar 1) (aCons (mK (.int 0)) (aCons (mOp dSub (mVar 0) (mK (.int 1))) aNil)))))
noncomputable def d_is_person : Fn := mDef 2 b_is_person
theorem F_is_person {G : Gd} (M : Mg G) : FnD G 3 (He.ga G.K "is_person") 2 d_is_person := by
  obtain ⟨fd, F⟩ := M.d_is_person
  refine fnD_of (b := b_is_person) F sc_is_person (F.bindsN fun _ _ _ _ _ _ us hl => match us, hl with | [_, _], _ => rfl) fun cdv A outer sh H E base g => ?_
  exact (ss_one (s_ret (se_call g (F_is_within M) (by decide) (by rfl) M.g_is_within M.d_is_within.kp (sa_cons (se_var (pv 1)) (sa_cons se_int (sa_cons (se_bin op_sub sem_sub (se_var (pv 0)) se_int) sa_nil))))))
noncomputable def b_is_lot_of (base : Nat) : MS :=
  (mSeq (mIfS (mOrT (mNotT (mT (mBlt cIsi (aCons (mVar 1) (aCons (mK (.ty "tuple")) aNil))))) (mNotT (mT (mBlt cAllV (aCons (mComp (srQ (mVar 1)) [2] (gN 2) tYesM (mCall d_is_person 2 (aCons (mVar 0) (aCons (mVar 2) aNil)))) aNil))))) (mRet (mK (.bl false))) mSkip)
  (mRet (mBlt cAllV (aCons (mComp (srZ (aCons (mVar 1) (aCons (mCut (mVar 1) (oSome (mK (.int 1))) oNone) aNil))) [2, 3] (gT (gsC (gN 2) (gsC (gN 3) gs0))) tYesM (mOp dLt2 (mVar 2) (mVar 3))) aNil))))
noncomputable def d_is_lot_of : Fn := mDef 4 b_is_lot_of
theorem F_is_lot_of {G : Gd} (M : Mg G) : FnD G 4 (He.ga G.K "is_lot_of") 2 d_is_lot_of := by
  obtain ⟨fd, F⟩ := M.d_is_lot_of
  refine fnD_of (b := b_is_lot_of) F sc_is_lot_of (F.bindsN fun _ _ _ _ _ _ us hl => match us, hl with | [_, _], _ => rfl) fun cdv A outer sh H E base g => ?_
  exact (ss_cons (s_if (sw_or (st_not (st_truth (se_callB call_isi sem_isi (by rfl) M.b_isinstance bo_isinstance (sa_cons (se_var (pv 1)) (sa_cons (se_ty (by rfl) M.b_tuple bo_tuple) sa_nil))))) (sw_or1 (st_not (st_truth (se_callB (cr_allV g.calm) sem_allV (by rfl) M.b_all bo_all (sa_cons (se_comp g.calm sc_is_lot_of.nd (si_seq (se_var (pv 1))) (own := [("one", 2)]) (blk_ok (by kernel_rfl)) rfl (fun _ _ _ _ _ => (sg_name sc_is_lot_of.nd (i := 2) rfl (by first | exact .inl rfl | exact .inr rfl) (by decide))) (fun _ _ _ _ _ => sts_nil) (fun _ _ _ _ _ => (se_call (g.blk _ _ _ _ _) (F_is_person M) (by decide) (by rfl) M.g_is_person M.d_is_person.kp (sa_cons (se_var (pv 0)) (sa_cons (se_var (pv 2)) sa_nil))))) sa_nil)))))).st (ss_one (s_ret se_bl)) ss_nil)
  (ss_one (s_ret (se_callB (cr_allV g.calm) sem_allV (by rfl) M.b_all bo_all (sa_cons (se_comp g.calm sc_is_lot_of.nd (si_zip (by rfl) M.b_zip (sa_cons (se_var (pv 1)) (sa_cons (se_cut (se_var (pv 1)) (so_some se_int) so_none) sa_nil))) (own := [("one", 2), ("other", 3)]) (blk_ok (by kernel_rfl)) rfl (fun _ _ _ _ _ => (sg_tup (g.blk _ _ _ _ _).calm (sgs_cons (sg_name sc_is_lot_of.nd (i := 2) rfl (by first | exact .inl rfl | exact .inr rfl) (by decide)) (sgs_cons (sg_name sc_is_lot_of.nd (i := 3) rfl (by first | exact .inl rfl | exact .inr rfl) (by decide)) sgs_nil)) rfl rfl (gsC_len (gsC_len gs0_len)))) (fun _ _ _ _ _ => sts_nil) (fun _ _ _ _ _ => (se_cmp (op_lt2 (g.blk _ _ _ _ _).hu) sem_lt2 (se_var (pv 2)) (se_var (pv 3)) (nomark _)))) sa_nil)))))
noncomputable def b_bits (base : Nat) : MS :=
  (mRet (mBlt cSum (aCons (mComp (srQ (mVar 0)) [1] (gN 1) tYesM (mOp dShl (mK (.int 1)) (mVar 1))) aNil)))
noncomputable def d_bits : Fn := mDef 2 b_bits
theorem F_bits {G : Gd} (M : Mg G) : FnD G 1 (He.ga G.K "bits") 1 d_bits := by
  obtain ⟨fd, F⟩ := M.d_bits
  refine fnD_of (b := b_bits) F sc_bits (F.bindsN fun _ _ _ _ _ _ us hl => match us, hl with | [_], _ => rfl) fun cdv A outer sh H E base g => ?_
  exact (ss_one (s_ret (se_callB (cr_sum g.calm) sem_sum (by rfl) M.b_sum bo_sum (sa_cons (se_comp g.calm sc_bits.nd (si_seq (se_var (pv 0))) (own := [("person", 1)]) (blk_ok (by kernel_rfl)) rfl (fun _ _ _ _ _ => (sg_name sc_bits.nd (i := 1) rfl (by first | exact .inl rfl | exact .inr rfl) (by decide))) (fun _ _ _ _ _ => sts_nil) (fun _ _ _ _ _ => (se_bin op_shl sem_shl se_int (se_var (pv 1))))) sa_nil))))
noncomputable def b_is_screen (base : Nat) : MS :=
  (mSeq (mDrop (mCall (mVarG d_require_people) 3 (aCons (mVar 0) (aCons (mVar 1) (aCons (mVar 2) aNil)))))
  (mSeq (mIfS (mNotT (mT (mCall d_is_lot_of 2 (aCons (mFld 0 1 (mVar 0)) (aCons (mVar 3) aNil))))) (mRaise0 4) mSkip)
  (mSeq (mDrop (mCall d_require_screened 3 (aCons (mVar 0) (aCons (mVar 1) (aCons (mVar 2) aNil)))))
  (mSeq (mIfS (mOrT (mTB (mOp dIn (mVar 1) (mVar 3))) (mTB (mOp dIn (mVar 2) (mVar 3)))) (mRaise0 8) mSkip)
  (mRet (mCall d_is_screen_in 4 (aCons (mCall d_rows_in 1 (aCons (mVar 0) aNil)) (aCons (mVar 1) (aCons (mVar 2) (aCons (mCall d_bits 1 (aCons (mVar 3) aNil)) aNil))))))))))
noncomputable def d_is_screen : Fn := mDef 4 b_is_screen
theorem F_is_screen {G : Gd} (M : Mg G) : FnD G 5 (He.ga G.K "is_screen") 4 d_is_screen := by
  obtain ⟨fd, F⟩ := M.d_is_screen
  refine fnD_of (b := b_is_screen) F sc_is_screen (F.bindsN fun _ _ _ _ _ _ us hl => match us, hl with | [_, _, _, _], _ => rfl) fun cdv A outer sh H E base g => ?_
  exact (ss_cons (s_expr (se_call g (F_require_people M (n := 2) (by decide)) (by decide) (by rfl) M.g_require_people M.d_require_people.kp (sa_cons (se_var (pv 0)) (sa_cons (se_var (pv 1)) (sa_cons (se_var (pv 2)) sa_nil)))))
  (ss_cons (s_if (st_not (st_truth (se_call g (F_is_lot_of M) (by decide) (by rfl) M.g_is_lot_of M.d_is_lot_of.kp (sa_cons (se_fld g M.oc_0 M.sl_own_size (se_var (pv 0))) (sa_cons (se_var (pv 3)) sa_nil))))) (ss_one (s_raise0 g M.xe_4 rfl (by rfl))) ss_nil)
  (ss_cons (s_expr (se_call g (F_require_screened M) (by decide) (by rfl) M.g_require_screened M.d_require_screened.kp (sa_cons (se_var (pv 0)) (sa_cons (se_var (pv 1)) (sa_cons (se_var (pv 2)) sa_nil)))))
  (ss_cons (s_if (sw_or (st_cmp (op_in2 g.hu) sem_in (se_var (pv 1)) (se_var (pv 3)) (by with_unfolding_all rfl)) (sw_or1 (st_cmp (op_in2 g.hu) sem_in (se_var (pv 2)) (se_var (pv 3)) (by with_unfolding_all rfl)))).st (ss_one (s_raise0 g M.xe_8 rfl (by rfl))) ss_nil)
  (ss_one (s_ret (se_call g (F_is_screen_in M) (by decide) (by rfl) M.g_is_screen_in M.d_is_screen_in.kp (sa_cons (se_call g (F_rows_in M) (by decide) (by rfl) M.g_rows_in M.d_rows_in.kp (sa_cons (se_var (pv 0)) sa_nil)) (sa_cons (se_var (pv 1)) (sa_cons (se_var (pv 2)) (sa_cons (se_call g (F_bits M) (by decide) (by rfl) M.g_bits M.d_bits.kp (sa_cons (se_var (pv 3)) sa_nil)) sa_nil)))))))))))
noncomputable def b_is_least_screen (base : Nat) : MS :=
  (mSeq (mIfS (mNotT (mT (mCall d_is_screen_in 4 (aCons (mVar 0) (aCons (mVar 1) (aCons (mVar 2) (aCons (mVar 3) aNil))))))) (mRet (mK (.bl false))) mSkip)
  (mRet (mNot (mBlt cAnyV (aCons (mComp (srL (mCall d_people_in 2 (aCons (mVar 3) (aCons (mBlt cLen (aCons (mVar 0) aNil)) aNil)))) [4] (gN 4) tYesM (mCall d_is_screen_in 4 (aCons (mVar 0) (aCons (mVar 1) (aCons (mVar 2) (aCons (mOp dAnd (mVar 3) (mUn dInv (mOp dShl (mK (.int 1)) (mVar 4)))) aNil)))))) aNil)))))
noncomputable def d_is_least_screen : Fn := mDef 5 b_is_least_screen
theorem F_is_least_screen {G : Gd} (M : Mg G) : FnD G 4 (He.ga G.K "is_least_screen") 4 d_is_least_screen := by
  obtain ⟨fd, F⟩ := M.d_is_least_screen
  refine fnD_of (b := b_is_least_screen) F sc_is_least_screen (F.bindsN fun _ _ _ _ _ _ us hl => match us, hl with | [_, _, _, _], _ => rfl) fun cdv A outer sh H E base g => ?_
  exact (ss_cons (s_if (st_not (st_truth (se_call g (F_is_screen_in M) (by decide) (by rfl) M.g_is_screen_in M.d_is_screen_in.kp (sa_cons (se_var (pv 0)) (sa_cons (se_var (pv 1)) (sa_cons (se_var (pv 2)) (sa_cons (se_var (pv 3)) sa_nil))))))) (ss_one (s_ret se_bl)) ss_nil)
  (ss_one (s_ret (se_not (se_callB (cr_anyV g.calm) sem_anyV (by rfl) M.b_any bo_any (sa_cons (se_comp g.calm sc_is_least_screen.nd (si_list (se_call g (F_people_in M) (by decide) (by rfl) M.g_people_in M.d_people_in.kp (sa_cons (se_var (pv 3)) (sa_cons (se_callB call_len sem_len (by rfl) M.b_len bo_len (sa_cons (se_var (pv 0)) sa_nil)) sa_nil)))) (own := [("person", 4)]) (blk_ok (by kernel_rfl)) rfl (fun _ _ _ _ _ => (sg_name sc_is_least_screen.nd (i := 4) rfl (by first | exact .inl rfl | exact .inr rfl) (by decide))) (fun _ _ _ _ _ => sts_nil) (fun _ _ _ _ _ => (se_call (g.blk _ _ _ _ _) (F_is_screen_in M) (by decide) (by rfl) M.g_is_screen_in M.d_is_screen_in.kp (sa_cons (se_var (pv 0)) (sa_cons (se_var (pv 1)) (sa_cons (se_var (pv 2)) (sa_cons (se_bin op_and sem_band (se_var (pv 3)) (se_un un_inv sem_inv (se_bin op_shl sem_shl se_int (se_var (pv 4))))) sa_nil))))))) sa_nil))))))
noncomputable def b_lot_of (base : Nat) : MS :=
  (mRet (mBlt cTuple (aCons (mComp (srR1 (aCons (mVar 1) aNil)) [2] (gN 2) (mT (mOp dAnd (mOp dShr (mVar 0) (mVar 2)) (mK (.int 1)))) (mVar 2)) aNil)))
noncomputable def d_lot_of : Fn := mDef 3 b_lot_of
theorem F_lot_of {G : Gd} (M : Mg G) : FnD G 1 (He.ga G.K "lot_of") 2 d_lot_of := by
  obtain ⟨fd, F⟩ := M.d_lot_of
  refine fnD_of (b := b_lot_of) F sc_lot_of (F.bindsN fun _ _ _ _ _ _ us hl => match us, hl with | [_, _], _ => rfl) fun cdv A outer sh H E base g => ?_
  exact (ss_one (s_ret (se_callTy call_tuple_of sem_tuple (by rfl) M.b_tuple bo_tuple (sa_cons (se_comp g.calm sc_lot_of.nd (si_range1 (by rfl) M.b_range (sa_cons (se_var (pv 1)) sa_nil)) (own := [("person", 2)]) (blk_ok (by kernel_rfl)) rfl (fun _ _ _ _ _ => (sg_name sc_lot_of.nd (i := 2) rfl (by first | exact .inl rfl | exact .inr rfl) (by decide))) (fun _ _ _ _ _ => (sts_one (st_truth (se_bin op_and sem_band (se_bin op_shr sem_shr (se_var (pv 0)) (se_var (pv 2))) se_int)))) (fun _ _ _ _ _ => (se_var (pv 2)))) sa_nil))))
noncomputable def b_least_screens (base : Nat) : MS :=
  (mSeq (mDrop (mCall (mVarG d_require_people) 3 (aCons (mVar 0) (aCons (mVar 1) (aCons (mVar 2) aNil)))))
  (mSeq (mDrop (mCall d_require_screened 3 (aCons (mVar 0) (aCons (mVar 1) (aCons (mVar 2) aNil)))))
  (mSeq (mIfS (mTB (mOp dGt (mFld 0 1 (mVar 0)) (mK (.int 10)))) (mRaise1 13 (mK (.int 10))) mSkip)
  (mSeq (mPar base 5 6 false (mCall d_rows_in 1 (aCons (mVar 0) aNil)) (mOp dOr (mOp dShl (mK (.int 1)) (mVar 1)) (mOp dShl (mK (.int 1)) (mVar 2))))
  (mSeq (mSetO base 3 (mLst aNil))
  (mSeq (mFor (srR1 (aCons (mOp dShl (mK (.int 1)) (mFld 0 1 (mVar 0))) aNil)) (gN 4) (mIfS (mAndT (mTB (mOp dEq (mOp dAnd (mVar 4) (mVar 6)) (mK (.int 0)))) (mT (mCall d_is_least_screen 4 (aCons (mVar 5) (aCons (mVar 1) (aCons (mVar 2) (aCons (mVar 4) aNil))))))) (mDrop (mMut fAppend (mVar 3) (aCons (mCall d_lot_of 2 (aCons (mVar 4) (aCons (mFld 0 1 (mVar 0)) aNil))) aNil))) mSkip))
  (mRet (mBlt cTuple (aCons (mBlt cSortK (aCons (mVar 3) aNil)) aNil)))))))))
noncomputable def d_least_screens : Fn := mDef 7 b_least_screens
theorem F_least_screens {G : Gd} (M : Mg G) : FnD G 5 (He.ga G.K "least_screens") 3 d_least_screens := by
  obtain ⟨fd, F⟩ := M.d_least_screens
  refine fnD_of (b := b_least_screens) F sc_least_screens (F.bindsN fun _ _ _ _ _ _ us hl => match us, hl with | [_, _, _], _ => rfl) fun cdv A outer sh H E base g => ?_
  exact (ss_cons (s_expr (se_call g (F_require_people M (n := 2) (by decide)) (by decide) (by rfl) M.g_require_people M.d_require_people.kp (sa_cons (se_var (pv 0)) (sa_cons (se_var (pv 1)) (sa_cons (se_var (pv 2)) sa_nil)))))
  (ss_cons (s_expr (se_call g (F_require_screened M) (by decide) (by rfl) M.g_require_screened M.d_require_screened.kp (sa_cons (se_var (pv 0)) (sa_cons (se_var (pv 1)) (sa_cons (se_var (pv 2)) sa_nil)))))
  (ss_cons (s_if (st_cmp op_gt sem_gt (se_fld g M.oc_0 M.sl_own_size (se_var (pv 0))) (se_gint (by rfl) M.c_MOST_SCREENED) (nomark _)) (ss_one (s_raise1 g M.xf_13 rfl (by rfl) (se_gint (by rfl) M.c_MOST_SCREENED))) ss_nil)
  (ss_cons (s_par g.calm sc_least_screens.nd (i := 5) (j := 6) rfl rfl (by decide) rfl rfl (se_call g (F_rows_in M) (by decide) (by rfl) M.g_rows_in M.d_rows_in.kp (sa_cons (se_var (pv 0)) sa_nil)) (se_bin op_or sem_bor (se_bin op_shl sem_shl se_int (se_var (pv 1))) (se_bin op_shl sem_shl se_int (se_var (pv 2)))) rfl (oj := false))
  (ss_cons (s_setO sc_least_screens.nd (i := 3) rfl (by first | exact .inl rfl | exact .inr rfl) (se_lst sa_nil))
  (ss_cons (s_for (passes_of rfl) g.calm (si_range1 (by rfl) M.b_range (sa_cons (se_bin op_shl sem_shl se_int (se_fld g M.oc_0 M.sl_own_size (se_var (pv 0)))) sa_nil)) (sg_name sc_least_screens.nd (i := 4) rfl (by first | exact .inl rfl | exact .inr rfl) (by decide)) (ss_one (s_if (sw_and (st_cmp (op_eq2 g.hu') sem_eq (se_bin op_and sem_band (se_var (pv 4)) (se_var (pv 6))) se_int (nomark _)) (sw_and1 (st_truth (se_call g (F_is_least_screen M) (by decide) (by rfl) M.g_is_least_screen M.d_is_least_screen.kp (sa_cons (se_var (pv 5)) (sa_cons (se_var (pv 1)) (sa_cons (se_var (pv 2)) (sa_cons (se_var (pv 4)) sa_nil)))))))).st (ss_one (s_expr (se_mut PySem.F.slot_list_append PySem.F.type_list_append mt_append sem_append (se_var (pv 3)) (sa_cons (se_call g (F_lot_of M) (by decide) (by rfl) M.g_lot_of M.d_lot_of.kp (sa_cons (se_var (pv 4)) (sa_cons (se_fld g M.oc_0 M.sl_own_size (se_var (pv 0))) sa_nil))) sa_nil)))) ss_nil)) (vs := [4]))
  (ss_one (s_ret (se_callTy call_tuple_of sem_tuple (by rfl) M.b_tuple bo_tuple (sa_cons (se_callB (call_sort g.hu) sem_sortK (by rfl) M.b_sorted bo_sorted (sa_cons (se_var (pv 3)) sa_nil)) sa_nil))))))))))
noncomputable def b_near_in (base : Nat) : MS :=
  (mSeq (mSetV base 3 (mOp dAnd (mOp dSub (mOp dShl (mK (.int 1)) (mBlt cLen (aCons (mVar 0) aNil))) (mK (.int 1))) (mUn dInv (mOp dIx' (mVar 0) (mVar 1)))))
  (mSeq (mSetV base 4 (mCall d_reached 3 (aCons (mVar 0) (aCons (mVar 3) (aCons (mVar 2) aNil)))))
  (mRet (mBlt cSum (aCons (mComp (srL (mCall d_people_in 2 (aCons (mOp dIx' (mVar 0) (mVar 1)) (aCons (mBlt cLen (aCons (mVar 0) aNil)) aNil)))) [5] (gN 5) (mT (mOp dAnd (mOp dIx' (mVar 0) (mVar 5)) (mVar 4))) (mOp dShl (mK (.int 1)) (mVar 5))) aNil)))))
noncomputable def d_near_in : Fn := mDef 6 b_near_in
theorem F_near_in {G : Gd} (M : Mg G) : FnD G 3 (He.ga G.K "near_in") 3 d_near_in := by
  obtain ⟨fd, F⟩ := M.d_near_in
  refine fnD_of (b := b_near_in) F sc_near_in (F.bindsN fun _ _ _ _ _ _ us hl => match us, hl with | [_, _, _], _ => rfl) fun cdv A outer sh H E base g => ?_
  exact (ss_cons (s_setV sc_near_in.nd (i := 3) rfl (by first | exact .inl rfl | exact .inr rfl) (se_bin op_and sem_band (se_bin op_sub sem_sub (se_bin op_shl sem_shl se_int (se_callB call_len sem_len (by rfl) M.b_len bo_len (sa_cons (se_var (pv 0)) sa_nil))) se_int) (se_un un_inv sem_inv (se_ix ix_seq sem_ix (se_var (pv 0)) (se_var (pv 1)) (fun _ _ => rfl)))))
  (ss_cons (s_setV sc_near_in.nd (i := 4) rfl (by first | exact .inl rfl | exact .inr rfl) (se_call g (F_reached M) (by decide) (by rfl) M.g_reached M.d_reached.kp (sa_cons (se_var (pv 0)) (sa_cons (se_var (pv 3)) (sa_cons (se_var (pv 2)) sa_nil)))))
  (ss_one (s_ret (se_callB (cr_sum g.calm) sem_sum (by rfl) M.b_sum bo_sum (sa_cons (se_comp g.calm sc_near_in.nd (si_list (se_call g (F_people_in M) (by decide) (by rfl) M.g_people_in M.d_people_in.kp (sa_cons (se_ix ix_seq sem_ix (se_var (pv 0)) (se_var (pv 1)) (fun _ _ => rfl)) (sa_cons (se_callB call_len sem_len (by rfl) M.b_len bo_len (sa_cons (se_var (pv 0)) sa_nil)) sa_nil)))) (own := [("person", 5)]) (blk_ok (by kernel_rfl)) rfl (fun _ _ _ _ _ => (sg_name sc_near_in.nd (i := 5) rfl (by first | exact .inl rfl | exact .inr rfl) (by decide))) (fun _ _ _ _ _ => (sts_one (st_truth (se_bin op_and sem_band (se_ix ix_seq sem_ix (se_var (pv 0)) (se_var (pv 5)) (fun _ _ => rfl)) (se_var (pv 4)))))) (fun _ _ _ _ _ => (se_bin op_shl sem_shl se_int (se_var (pv 5))))) sa_nil))))))
noncomputable def b_screen_near (base : Nat) : MS :=
  (mSeq (mDrop (mCall (mVarG d_require_people) 3 (aCons (mVar 0) (aCons (mVar 1) (aCons (mVar 2) aNil)))))
  (mSeq (mDrop (mCall d_require_screened 3 (aCons (mVar 0) (aCons (mVar 1) (aCons (mVar 2) aNil)))))
  (mRet (mCall d_lot_of 2 (aCons (mCall d_near_in 3 (aCons (mCall d_rows_in 1 (aCons (mVar 0) aNil)) (aCons (mVar 1) (aCons (mVar 2) aNil)))) (aCons (mFld 0 1 (mVar 0)) aNil))))))
noncomputable def d_screen_near : Fn := mDef 3 b_screen_near
theorem F_screen_near {G : Gd} (M : Mg G) : FnD G 4 (He.ga G.K "screen_near") 3 d_screen_near := by
  obtain ⟨fd, F⟩ := M.d_screen_near
  refine fnD_of (b := b_screen_near) F sc_screen_near (F.bindsN fun _ _ _ _ _ _ us hl => match us, hl with | [_, _, _], _ => rfl) fun cdv A outer sh H E base g => ?_
  exact (ss_cons (s_expr (se_call g (F_require_people M (n := 2) (by decide)) (by decide) (by rfl) M.g_require_people M.d_require_people.kp (sa_cons (se_var (pv 0)) (sa_cons (se_var (pv 1)) (sa_cons (se_var (pv 2)) sa_nil)))))
  (ss_cons (s_expr (se_call g (F_require_screened M) (by decide) (by rfl) M.g_require_screened M.d_require_screened.kp (sa_cons (se_var (pv 0)) (sa_cons (se_var (pv 1)) (sa_cons (se_var (pv 2)) sa_nil)))))
  (ss_one (s_ret (se_call g (F_lot_of M) (by decide) (by rfl) M.g_lot_of M.d_lot_of.kp (sa_cons (se_call g (F_near_in M) (by decide) (by rfl) M.g_near_in M.d_near_in.kp (sa_cons (se_call g (F_rows_in M) (by decide) (by rfl) M.g_rows_in M.d_rows_in.kp (sa_cons (se_var (pv 0)) sa_nil)) (sa_cons (se_var (pv 1)) (sa_cons (se_var (pv 2)) sa_nil)))) (sa_cons (se_fld g M.oc_0 M.sl_own_size (se_var (pv 0))) sa_nil)))))))
noncomputable def b__law_screens (base : Nat) : MS :=
  (mSeq (mSetO base 4 (mLst (aCons (mLam 0 "_law_screens" mr__law_met (mCall d_is_screen 4 (aCons (mVar 0) (aCons (mVar 1) (aCons (mVar 2) (aCons (mVar 3) aNil)))))) (aCons (mLam 0 "_law_screens" mr__law_met (mCall d_least_screens 3 (aCons (mVar 0) (aCons (mVar 1) (aCons (mVar 2) aNil))))) aNil))))
  (mSeq (mDrop (mMut fAppend (mVar 4) (aCons (mLam 0 "_law_screens" mr__law_met (mCall d_screen_near 3 (aCons (mVar 0) (aCons (mVar 1) (aCons (mVar 2) aNil))))) aNil)))
  (mRet (mVar 4))))
noncomputable def d__law_screens : Fn := mDef 5 b__law_screens
theorem F__law_screens {G : Gd} (M : Mg G) : FnD G 8 (He.ga G.K "_law_screens") 4 d__law_screens := by
  obtain ⟨fd, F⟩ := M.d__law_screens
  refine fnD_ofC (b := b__law_screens) F sc__law_screens (F.bindsN fun _ _ _ _ _ _ us hl => match us, hl with | [_, _, _, _], _ => rfl) fun A outer sh H E base g => ?_
  exact (ss_cons (s_setO sc__law_screens.nd (i := 4) rfl (by first | exact .inl rfl | exact .inr rfl) (se_lst (sa_cons (se_lam (k := 5) g (by decide) rfl (by rfl) M.g__law_met M.d__law_met (fun _ _ _ _ _ _ us hl => match us, hl with | [_], _ => rfl) sc__law_met rfl vis__law_met (fun cdv => G__law_met M g cdv _) M.t__law_screens rfl rfl (LamX.lamS_by (by kernel_rfl)) rfl (fun _ _ _ _ _ => rfl) (fun A outer sh H E f c gl => (se_call gl (F_is_screen M) (by decide) (by rfl) M.g_is_screen M.d_is_screen.kp (sa_cons (se_var (pv 0)) (sa_cons (se_var (pv 1)) (sa_cons (se_var (pv 2)) (sa_cons (se_var (pv 3)) sa_nil))))))) (sa_cons (se_lam (k := 5) g (by decide) rfl (by rfl) M.g__law_met M.d__law_met (fun _ _ _ _ _ _ us hl => match us, hl with | [_], _ => rfl) sc__law_met rfl vis__law_met (fun cdv => G__law_met M g cdv _) M.t__law_screens rfl rfl (LamX.lamS_by (by kernel_rfl)) rfl (fun _ _ _ _ _ => rfl) (fun A outer sh H E f c gl => (se_call gl (F_least_screens M) (by decide) (by rfl) M.g_least_screens M.d_least_screens.kp (sa_cons (se_var (pv 0)) (sa_cons (se_var (pv 1)) (sa_cons (se_var (pv 2)) sa_nil)))))) sa_nil))))
  (ss_cons (s_expr (se_mut PySem.F.slot_list_append PySem.F.type_list_append mt_append sem_append (se_var (pv 4)) (sa_cons (se_lam (k := 4) g (by decide) rfl (by rfl) M.g__law_met M.d__law_met (fun _ _ _ _ _ _ us hl => match us, hl with | [_], _ => rfl) sc__law_met rfl vis__law_met (fun cdv => G__law_met M g cdv _) M.t__law_screens rfl rfl (LamX.lamS_by (by kernel_rfl)) rfl (fun _ _ _ _ _ => rfl) (fun A outer sh H E f c gl => (se_call gl (F_screen_near M) (by decide) (by rfl) M.g_screen_near M.d_screen_near.kp (sa_cons (se_var (pv 0)) (sa_cons (se_var (pv 1)) (sa_cons (se_var (pv 2)) sa_nil)))))) sa_nil)))
  (ss_one (s_ret (se_var (pv 4))))))
noncomputable def b_are_people (base : Nat) : MS :=
  (mSeq (mIfS (mOrT (mNotT (mT (mBlt cIsi (aCons (mVar 1) (aCons (mK (.ty "tuple")) aNil))))) (mNotT (mT (mBlt cAllV (aCons (mComp (srQ (mVar 1)) [2] (gN 2) tYesM (mCall d_is_within 3 (aCons (mVar 2) (aCons (mK (.int 0)) (aCons (mOp dSub (mVar 0) (mK (.int 1))) aNil))))) aNil))))) (mRet (mK (.bl false))) mSkip)
  (mRet (mOp dEq (mLenSet (mVar 1)) (mBlt cLen (aCons (mVar 1) aNil)))))
noncomputable def d_are_people : Fn := mDef 3 b_are_people
theorem F_are_people {G : Gd} (M : Mg G) : FnD G 3 (He.ga G.K "are_people") 2 d_are_people := by
  obtain ⟨fd, F⟩ := M.d_are_people
  refine fnD_of (b := b_are_people) F sc_are_people (F.bindsN fun _ _ _ _ _ _ us hl => match us, hl with | [_, _], _ => rfl) fun cdv A outer sh H E base g => ?_
  exact (ss_cons (s_if (sw_or (st_not (st_truth (se_callB call_isi sem_isi (by rfl) M.b_isinstance bo_isinstance (sa_cons (se_var (pv 1)) (sa_cons (se_ty (by rfl) M.b_tuple bo_tuple) sa_nil))))) (sw_or1 (st_not (st_truth (se_callB (cr_allV g.calm) sem_allV (by rfl) M.b_all bo_all (sa_cons (se_comp g.calm sc_are_people.nd (si_seq (se_var (pv 1))) (own := [("one", 2)]) (blk_ok (by kernel_rfl)) rfl (fun _ _ _ _ _ => (sg_name sc_are_people.nd (i := 2) rfl (by first | exact .inl rfl | exact .inr rfl) (by decide))) (fun _ _ _ _ _ => sts_nil) (fun _ _ _ _ _ => (se_call (g.blk _ _ _ _ _) (F_is_within M) (by decide) (by rfl) M.g_is_within M.d_is_within.kp (sa_cons (se_var (pv 2)) (sa_cons se_int (sa_cons (se_bin op_sub sem_sub (se_var (pv 0)) se_int) sa_nil)))))) sa_nil)))))).st (ss_one (s_ret se_bl)) ss_nil)
  (ss_one (s_ret (se_cmp (op_eq2 g.hu') sem_eq (se_lenSet g.calm (by rfl) M.b_len (by rfl) M.b_set (se_var (pv 1))) (se_callB call_len sem_len (by rfl) M.b_len bo_len (sa_cons (se_var (pv 1)) sa_nil)) (nomark _)))))
noncomputable def b_is_row_of_all (base : Nat) : MS :=
  (mRet (mAnd (mCall d_are_people 2 (aCons (mFld 0 1 (mVar 0)) (aCons (mVar 1) aNil))) (mOp dEq (mBlt cLen (aCons (mVar 1) aNil)) (mFld 0 1 (mVar 0)))))
noncomputable def d_is_row_of_all : Fn := mDef 2 b_is_row_of_all
theorem F_is_row_of_all {G : Gd} (M : Mg G) : FnD G 4 (He.ga G.K "is_row_of_all") 2 d_is_row_of_all := by
  obtain ⟨fd, F⟩ := M.d_is_row_of_all
  refine fnD_of (b := b_is_row_of_all) F sc_is_row_of_all (F.bindsN fun _ _ _ _ _ _ us hl => match us, hl with | [_, _], _ => rfl) fun cdv A outer sh H E base g => ?_
  exact (ss_one (s_ret (se_and (se_call g (F_are_people M) (by decide) (by rfl) M.g_are_people M.d_are_people.kp (sa_cons (se_fld g M.oc_0 M.sl_own_size (se_var (pv 0))) (sa_cons (se_var (pv 1)) sa_nil))) (se_one (se_cmp (op_eq2 g.hu') sem_eq (se_callB call_len sem_len (by rfl) M.b_len bo_len (sa_cons (se_var (pv 1)) sa_nil)) (se_fld g M.oc_0 M.sl_own_size (se_var (pv 0))) (nomark _))))))
noncomputable def b_later_in (base : Nat) : MS :=
  (mSeq (parN base [(3, true, (mCall d_rows_in 1 (aCons (mVar 0) aNil))), (4, false, (mOp dSub (mOp dShl (mK (.int 1)) (mFld 0 1 (mVar 0))) (mK (.int 1)))), (5, true, (mLst aNil))])
  (mSeq (mFor (srQ (mVar 1)) (gN 2) (mSeq (mAug dAnd base 4 (mUn dInv (mOp dShl (mK (.int 1)) (mVar 2))))
  (mSeq (mSetV base 6 (mOp dAnd (mOp dIx' (mVar 3) (mVar 2)) (mVar 4)))
  (mSeq (mDrop (mMut fAppend (mVar 5) (aCons (mVar 6) aNil)))
  (mFor (srL (mCall d_people_in 2 (aCons (mVar 6) (aCons (mFld 0 1 (mVar 0)) aNil)))) (gN 7) (mAugIx dOr (mVar 3) (mVar 7) (mOp dAnd (mVar 6) (mUn dInv (mOp dShl (mK (.int 1)) (mVar 7))))))))))
  (mRet (mVar 5))))
noncomputable def d_later_in : Fn := mDef 8 b_later_in
theorem F_later_in {G : Gd} (M : Mg G) : FnD G 2 (He.ga G.K "later_in") 2 d_later_in := by
  obtain ⟨fd, F⟩ := M.d_later_in
  refine fnD_of (b := b_later_in) F sc_later_in (F.bindsN fun _ _ _ _ _ _ us hl => match us, hl with | [_, _], _ => rfl) fun cdv A outer sh H E base g => ?_
  exact (ss_cons (s_parS3 g.calm sc_later_in.nd (i := 3) (j := 4) (l := 5) rfl rfl rfl (by decide) (by decide) (by decide) rfl rfl rfl (pn_cons (se_call g (F_rows_in M) (by decide) (by rfl) M.g_rows_in M.d_rows_in.kp (sa_cons (se_var (pv 0)) sa_nil)) (pn_cons (se_bin op_sub sem_sub (se_bin op_shl sem_shl se_int (se_fld g M.oc_0 M.sl_own_size (se_var (pv 0)))) se_int) (pn_cons (se_lst sa_nil) pn_nil))) rfl)
  (ss_cons (s_for (passes_of rfl) g.calm (si_seq (se_var (pv 1))) (sg_name sc_later_in.nd (i := 2) rfl (by first | exact .inl rfl | exact .inr rfl) (by decide)) (ss_cons (s_aug sc_later_in.nd (k := 4) rfl (by first | exact .inl rfl | exact .inr rfl) (se_un un_inv sem_inv (se_bin op_shl sem_shl se_int (se_var (pv 2)))) iop_and sem_band)
  (ss_cons (s_setV sc_later_in.nd (i := 6) rfl (by first | exact .inl rfl | exact .inr rfl) (se_bin op_and sem_band (se_ix ix_seq sem_ix (se_var (pv 3)) (se_var (pv 2)) (fun _ _ => rfl)) (se_var (pv 4))))
  (ss_cons (s_expr (se_mut PySem.F.slot_list_append PySem.F.type_list_append mt_append sem_append (se_var (pv 5)) (sa_cons (se_var (pv 6)) sa_nil)))
  (ss_one (s_for (passes_of rfl) g.calm (si_list (se_call g (F_people_in M) (by decide) (by rfl) M.g_people_in M.d_people_in.kp (sa_cons (se_var (pv 6)) (sa_cons (se_fld g M.oc_0 M.sl_own_size (se_var (pv 0))) sa_nil)))) (sg_name sc_later_in.nd (i := 7) rfl (by first | exact .inl rfl | exact .inr rfl) (by decide)) (ss_one (s_augIx (se_var (pv 3)) (se_var (pv 7)) (se_bin op_and sem_band (se_var (pv 6)) (se_un un_inv sem_inv (se_bin op_shl sem_shl se_int (se_var (pv 7))))) iop_or sem_bor)) (vs := [7])))))) (vs := [2]))
  (ss_one (s_ret (se_var (pv 5))))))
noncomputable def b_gaps_in (base : Nat) : MS :=
  (mSeq (mSetO base 2 (mLst aNil))
  (mSeq (mFor (srZ (aCons (mVar 1) (aCons (mCall d_later_in 2 (aCons (mVar 0) (aCons (mVar 1) aNil))) aNil))) (gT (gsC (gN 4) (gsC (gN 5) gs0))) (mDrop (mMut fExtend (mVar 2) (aCons (mComp (srL (mCall d_people_in 2 (aCons (mVar 5) (aCons (mFld 0 1 (mVar 0)) aNil)))) [7] (gN 7) tYesM (mTup (aCons (mBlt cMin2 (aCons (mVar 4) (aCons (mVar 7) aNil))) (aCons (mBlt cMax2 (aCons (mVar 4) (aCons (mVar 7) aNil))) aNil)))) aNil))))
  (mSeq mNever
  (mRet (mFrz (mBlt cSortK (aCons (mComp (srL (mVar 2)) [6] (gN 6) (mTB (mOp dNotIn3 (mVar 6) (mVar 3))) (mVar 6)) aNil)))))))
noncomputable def d_gaps_in : Fn := mDef 8 b_gaps_in
theorem F_gaps_in {G : Gd} (M : Mg G) : FnD G 3 (He.ga G.K "gaps_in") 2 d_gaps_in := by
  obtain ⟨fd, F⟩ := M.d_gaps_in
  refine fnD_of (b := b_gaps_in) F sc_gaps_in (F.bindsN fun _ _ _ _ _ _ us hl => match us, hl with | [_, _], _ => rfl) fun cdv A outer sh H E base g => ?_
  exact (ss_cons (s_setO sc_gaps_in.nd (i := 2) rfl (by first | exact .inl rfl | exact .inr rfl) (se_lst sa_nil))
  (ss_cons (s_for (passes_of rfl) g.calm (si_zip (by rfl) M.b_zip (sa_cons (se_var (pv 1)) (sa_cons (se_call g (F_later_in M) (by decide) (by rfl) M.g_later_in M.d_later_in.kp (sa_cons (se_var (pv 0)) (sa_cons (se_var (pv 1)) sa_nil))) sa_nil))) (sg_tup g.calm (sgs_cons (sg_name sc_gaps_in.nd (i := 4) rfl (by first | exact .inl rfl | exact .inr rfl) (by decide)) (sgs_cons (sg_name sc_gaps_in.nd (i := 5) rfl (by first | exact .inl rfl | exact .inr rfl) (by decide)) sgs_nil)) rfl rfl (gsC_len (gsC_len gs0_len))) (ss_one (s_expr (se_mut PySem.F.slot_list_extend PySem.F.type_list_extend mt_extend sem_extend (se_var (pv 2)) (sa_cons (se_comp g.calm sc_gaps_in.nd (si_list (se_call g (F_people_in M) (by decide) (by rfl) M.g_people_in M.d_people_in.kp (sa_cons (se_var (pv 5)) (sa_cons (se_fld g M.oc_0 M.sl_own_size (se_var (pv 0))) sa_nil)))) (own := [("one", 7)]) (blk_ok (by kernel_rfl)) rfl (fun _ _ _ _ _ => (sg_name sc_gaps_in.nd (i := 7) rfl (by first | exact .inl rfl | exact .inr rfl) (by decide))) (fun _ _ _ _ _ => sts_nil) (fun _ _ _ _ _ => (se_tup (sa_cons (se_callB (call_min2 (g.blk _ _ _ _ _).calm) sem_min2 (by rfl) M.b_min bo_min (sa_cons (se_var (pv 4)) (sa_cons (se_var (pv 7)) sa_nil))) (sa_cons (se_callB (call_max2 (g.blk _ _ _ _ _).calm) sem_max2 (by rfl) M.b_max bo_max (sa_cons (se_var (pv 4)) (sa_cons (se_var (pv 7)) sa_nil))) sa_nil))))) sa_nil)))) (vs := [4, 5]))
  (ss_cons s_never
  (ss_one (s_ret (se_frz (se_callB (call_sort g.hu) sem_sortK (by rfl) M.b_sorted bo_sorted (sa_cons (se_comp g.calm sc_gaps_in.nd (si_list (se_var (pv 2))) (own := [("pair", 6)]) (blk_ok (by kernel_rfl)) rfl (fun _ _ _ _ _ => (sg_name sc_gaps_in.nd (i := 6) rfl (by first | exact .inl rfl | exact .inr rfl) (by decide))) (fun _ _ _ _ _ => (sts_one (st_cmp (op_notIn3 (g.blk _ _ _ _ _).hu) sem_notIn3 (se_var (pv 6)) (se_var (pv 3)) (by with_unfolding_all rfl)))) (fun _ _ _ _ _ => (se_var (pv 6)))) sa_nil))))))))
noncomputable def b_is_sequence_in (base : Nat) : MS :=
  (mRet (mAnd (mCall d_is_row_of_all 2 (aCons (mVar 0) (aCons (mVar 1) aNil))) (mOp dEq (mCall d_gaps_in 2 (aCons (mVar 0) (aCons (mVar 1) aNil))) (mLst aNil))))
noncomputable def d_is_sequence_in : Fn := mDef 2 b_is_sequence_in
theorem F_is_sequence_in {G : Gd} (M : Mg G) : FnD G 5 (He.ga G.K "is_sequence_in") 2 d_is_sequence_in := by
  obtain ⟨fd, F⟩ := M.d_is_sequence_in
  refine fnD_of (b := b_is_sequence_in) F sc_is_sequence_in (F.bindsN fun _ _ _ _ _ _ us hl => match us, hl with | [_, _], _ => rfl) fun cdv A outer sh H E base g => ?_
  exact (ss_one (s_ret (se_and (se_call g (F_is_row_of_all M) (by decide) (by rfl) M.g_is_row_of_all M.d_is_row_of_all.kp (sa_cons (se_var (pv 0)) (sa_cons (se_var (pv 1)) sa_nil))) (se_one (se_cmp (op_eq2 g.hu') sem_eq (se_call g (F_gaps_in M) (by decide) (by rfl) M.g_gaps_in M.d_gaps_in.kp (sa_cons (se_var (pv 0)) (sa_cons (se_var (pv 1)) sa_nil))) (se_lst sa_nil) (nomark _))))))
noncomputable def b_is_ring_in (base : Nat) : MS :=
  (mSeq (mIfS (mOrT (mNotT (mT (mCall d_are_people 2 (aCons (mFld 0 1 (mVar 0)) (aCons (mVar 1) aNil))))) (mTB (mOp dLt (mBlt cLen (aCons (mVar 1) aNil)) (mK (.int 4))))) (mRet (mK (.bl false))) mSkip)
  (mSeq (mPar base 2 3 false (mCall d_rows_in 1 (aCons (mVar 0) aNil)) (mBlt cLen (aCons (mVar 1) aNil)))
  (mSeq (mFor (srE2 (aCons (mVar 1) aNil)) (gT (gsC (gN 4) (gsC (gN 5) gs0))) (mFor (srR2 (aCons (mOp dAdd (mVar 4) (mK (.int 1))) (aCons (mVar 3) aNil))) (gN 6) (mSeq (mSetV base 7 (mOr (mOp dEq (mVar 6) (mOp dAdd (mVar 4) (mK (.int 1)))) (mAnd (mOp dEq (mVar 4) (mK (.int 0))) (mOp dEq (mVar 6) (mOp dSub (mVar 3) (mK (.int 1)))))))
  (mIfS (mTB (mOp dNe (mOp dEq (mOp dAnd (mOp dShr (mOp dIx' (mVar 2) (mVar 5)) (mOp dIx' (mVar 1) (mVar 6))) (mK (.int 1))) (mK (.int 1))) (mVar 7))) (mRet (mK (.bl false))) mSkip))))
  (mRet (mK (.bl true))))))
noncomputable def d_is_ring_in : Fn := mDef 8 b_is_ring_in
theorem F_is_ring_in {G : Gd} (M : Mg G) : FnD G 4 (He.ga G.K "is_ring_in") 2 d_is_ring_in := by
  obtain ⟨fd, F⟩ := M.d_is_ring_in
  refine fnD_of (b := b_is_ring_in) F sc_is_ring_in (F.bindsN fun _ _ _ _ _ _ us hl => match us, hl with | [_, _], _ => rfl) fun cdv A outer sh H E base g => ?_
  exact (ss_cons (s_if (sw_or (st_not (st_truth (se_call g (F_are_people M) (by decide) (by rfl) M.g_are_people M.d_are_people.kp (sa_cons (se_fld g M.oc_0 M.sl_own_size (se_var (pv 0))) (sa_cons (se_var (pv 1)) sa_nil))))) (sw_or1 (st_cmp op_lt sem_lt (se_callB call_len sem_len (by rfl) M.b_len bo_len (sa_cons (se_var (pv 1)) sa_nil)) se_int (nomark _)))).st (ss_one (s_ret se_bl)) ss_nil)
  (ss_cons (s_par g.calm sc_is_ring_in.nd (i := 2) (j := 3) rfl rfl (by decide) rfl rfl (se_call g (F_rows_in M) (by decide) (by rfl) M.g_rows_in M.d_rows_in.kp (sa_cons (se_var (pv 0)) sa_nil)) (se_callB call_len sem_len (by rfl) M.b_len bo_len (sa_cons (se_var (pv 1)) sa_nil)) rfl (oj := false))
  (ss_cons (s_for (passes_of rfl) g.calm (si_enum2 (by rfl) M.b_enumerate (sa_cons (se_var (pv 1)) sa_nil)) (sg_tup g.calm (sgs_cons (sg_name sc_is_ring_in.nd (i := 4) rfl (by first | exact .inl rfl | exact .inr rfl) (by decide)) (sgs_cons (sg_name sc_is_ring_in.nd (i := 5) rfl (by first | exact .inl rfl | exact .inr rfl) (by decide)) sgs_nil)) rfl rfl (gsC_len (gsC_len gs0_len))) (ss_one (s_for (passes_of rfl) g.calm (si_range2 (by rfl) M.b_range (sa_cons (se_bin op_add2 sem_add (se_var (pv 4)) se_int) (sa_cons (se_var (pv 3)) sa_nil))) (sg_name sc_is_ring_in.nd (i := 6) rfl (by first | exact .inl rfl | exact .inr rfl) (by decide)) (ss_cons (s_setV sc_is_ring_in.nd (i := 7) rfl (by first | exact .inl rfl | exact .inr rfl) (se_or (se_cmp (op_eq2 g.hu') sem_eq (se_var (pv 6)) (se_bin op_add2 sem_add (se_var (pv 4)) se_int) (nomark _)) (se_one (se_and (se_cmp (op_eq2 g.hu') sem_eq (se_var (pv 4)) se_int (nomark _)) (se_one (se_cmp (op_eq2 g.hu') sem_eq (se_var (pv 6)) (se_bin op_sub sem_sub (se_var (pv 3)) se_int) (nomark _)))))))
  (ss_one (s_if (st_cmp (op_ne2 g.hu') sem_ne (se_cmp (op_eq2 g.hu') sem_eq (se_bin op_and sem_band (se_bin op_shr sem_shr (se_ix ix_seq sem_ix (se_var (pv 2)) (se_var (pv 5)) (fun _ _ => rfl)) (se_ix ix_seq sem_ix (se_var (pv 1)) (se_var (pv 6)) (fun _ _ => rfl))) se_int) se_int (nomark _)) (se_var (pv 7)) (nomark _)) (ss_one (s_ret se_bl)) ss_nil))) (vs := [6]))) (vs := [4, 5]))
  (ss_one (s_ret se_bl)))))
noncomputable def b_is_ring_paper (base : Nat) : MS :=
  (mSeq (mDrop (mCall d_require_table 1 (aCons (mVar 0) aNil)))
  (mSeq (mIfS (mOrT (mNotT (mT (mBlt cIsi (aCons (mVar 1) (aCons (mK (.ty "tuple")) aNil))))) (mTB (mOp dNe (mBlt cLen (aCons (mVar 1) aNil)) (mK (.int 2))))) (mRet (mK (.bl false))) mSkip)
  (mSeq (mIfS (mTB (mOp dEq (mOp dIx' (mVar 1) (mK (.int 0))) (mK (.str "sequence")))) (mRet (mCall d_is_sequence_in 2 (aCons (mVar 0) (aCons (mOp dIx' (mVar 1) (mK (.int 1))) aNil)))) mSkip)
  (mRet (mAnd (mOp dEq (mOp dIx' (mVar 1) (mK (.int 0))) (mK (.str "ring"))) (mCall d_is_ring_in 2 (aCons (mVar 0) (aCons (mOp dIx' (mVar 1) (mK (.int 1))) aNil))))))))
noncomputable def d_is_ring_paper : Fn := mDef 2 b_is_ring_paper
theorem F_is_ring_paper {G : Gd} (M : Mg G) : FnD G 6 (He.ga G.K "is_ring_paper") 2 d_is_ring_paper := by
  obtain ⟨fd, F⟩ := M.d_is_ring_paper
  refine fnD_of (b := b_is_ring_paper) F sc_is_ring_paper (F.bindsN fun _ _ _ _ _ _ us hl => match us, hl with | [_, _], _ => rfl) fun cdv A outer sh H E base g => ?_
  exact (ss_cons (s_expr (se_call g (F_require_table M) (by decide) (by rfl) M.g_require_table M.d_require_table.kp (sa_cons (se_var (pv 0)) sa_nil)))
  (ss_cons (s_if (sw_or (st_not (st_truth (se_callB call_isi sem_isi (by rfl) M.b_isinstance bo_isinstance (sa_cons (se_var (pv 1)) (sa_cons (se_ty (by rfl) M.b_tuple bo_tuple) sa_nil))))) (sw_or1 (st_cmp (op_ne2 g.hu') sem_ne (se_callB call_len sem_len (by rfl) M.b_len bo_len (sa_cons (se_var (pv 1)) sa_nil)) se_int (nomark _)))).st (ss_one (s_ret se_bl)) ss_nil)
  (ss_cons (s_if (st_cmp (op_eq2 g.hu') sem_eq (se_ix ix_seq sem_ix (se_var (pv 1)) se_int (fun _ _ => rfl)) (se_gstr (by rfl) M.c_SEQUENCE) (nomark _)) (ss_one (s_ret (se_call g (F_is_sequence_in M) (by decide) (by rfl) M.g_is_sequence_in M.d_is_sequence_in.kp (sa_cons (se_var (pv 0)) (sa_cons (se_ix ix_seq sem_ix (se_var (pv 1)) se_int (fun _ _ => rfl)) sa_nil))))) ss_nil)
  (ss_one (s_ret (se_and (se_cmp (op_eq2 g.hu') sem_eq (se_ix ix_seq sem_ix (se_var (pv 1)) se_int (fun _ _ => rfl)) (se_gstr (by rfl) M.c_RING) (nomark _)) (se_one (se_call g (F_is_ring_in M) (by decide) (by rfl) M.g_is_ring_in M.d_is_ring_in.kp (sa_cons (se_var (pv 0)) (sa_cons (se_ix ix_seq sem_ix (se_var (pv 1)) se_int (fun _ _ => rfl)) sa_nil))))))))))
noncomputable def b_is_ring (base : Nat) : MS :=
  (mSeq (mDrop (mCall d_require_table 1 (aCons (mVar 0) aNil)))
  (mRet (mCall d_is_ring_in 2 (aCons (mVar 0) (aCons (mVar 1) aNil)))))
noncomputable def d_is_ring : Fn := mDef 2 b_is_ring
theorem F_is_ring {G : Gd} (M : Mg G) : FnD G 5 (He.ga G.K "is_ring") 2 d_is_ring := by
  obtain ⟨fd, F⟩ := M.d_is_ring
  refine fnD_of (b := b_is_ring) F sc_is_ring (F.bindsN fun _ _ _ _ _ _ us hl => match us, hl with | [_, _], _ => rfl) fun cdv A outer sh H E base g => ?_
  exact (ss_cons (s_expr (se_call g (F_require_table M) (by decide) (by rfl) M.g_require_table M.d_require_table.kp (sa_cons (se_var (pv 0)) sa_nil)))
  (ss_one (s_ret (se_call g (F_is_ring_in M) (by decide) (by rfl) M.g_is_ring_in M.d_is_ring_in.kp (sa_cons (se_var (pv 0)) (sa_cons (se_var (pv 1)) sa_nil))))))
noncomputable def b_is_sequence (base : Nat) : MS :=
  (mSeq (mDrop (mCall d_require_table 1 (aCons (mVar 0) aNil)))
  (mRet (mCall d_is_sequence_in 2 (aCons (mVar 0) (aCons (mVar 1) aNil)))))
noncomputable def d_is_sequence : Fn := mDef 2 b_is_sequence
theorem F_is_sequence {G : Gd} (M : Mg G) : FnD G 6 (He.ga G.K "is_sequence") 2 d_is_sequence := by
  obtain ⟨fd, F⟩ := M.d_is_sequence
  refine fnD_of (b := b_is_sequence) F sc_is_sequence (F.bindsN fun _ _ _ _ _ _ us hl => match us, hl with | [_, _], _ => rfl) fun cdv A outer sh H E base g => ?_
  exact (ss_cons (s_expr (se_call g (F_require_table M) (by decide) (by rfl) M.g_require_table M.d_require_table.kp (sa_cons (se_var (pv 0)) sa_nil)))
  (ss_one (s_ret (se_call g (F_is_sequence_in M) (by decide) (by rfl) M.g_is_sequence_in M.d_is_sequence_in.kp (sa_cons (se_var (pv 0)) (sa_cons (se_var (pv 1)) sa_nil))))))
noncomputable def b__law_draw (base : Nat) : MS :=
  (mSeq (mIfS (mTB (mOp dGt (mOp dIx' (mVar 0) (mK (.int 0))) (mK (.int 0)))) (mSeq (mSetV base 4 (mOp dMod (mBlt cInt (aCons (mOp dIx' (mVar 0) (mK (.int 0))) aNil)) (mVar 1)))
  (mSeq (mSetIx (mOp dDiv (mOp dIx' (mVar 0) (mK (.int 0))) (mVar 1)) (mVar 0) (mK (.int 0)))
  (mRet (mVar 4)))) mSkip)
  (mSeq (mSetIx (mOp dAdd (mOp dIx' (mVar 0) (mK (.int 2))) (mK (.int 1))) (mVar 0) (mK (.int 2)))
  (mSeq (mSetV base 2 (mOp dMod (mBlt cInt (aCons (mOp dAdd (mOp dIx' (mVar 0) (mK (.int 1))) (mOp dMul (mK (.int 86028121)) (mOp dIx' (mVar 0) (mK (.int 2))))) aNil)) (mK (.int 2305843009213693951))))
  (mSeq (mSetV base 3 (mOp dAdd (mOp dMul (mOp dMod (mBlt cInt (aCons (mOp dAdd (mOp dMul (mVar 2) (mVar 2)) (mOp dMul (mK (.int 107)) (mOp dIx' (mVar 0) (mK (.int 2))))) aNil)) (mK (.int 2305843009213693921))) (mK (.int 3999971))) (mVar 2)))
  (mRet (mOp dMod (mBlt cInt (aCons (mOp dDiv (mVar 3) (mK (.int 65539))) aNil)) (mVar 1)))))))
noncomputable def d__law_draw : Fn := mDef 5 b__law_draw
theorem F__law_draw {G : Gd} (M : Mg G) : FnD G 1 (He.ga G.K "_law_draw") 2 d__law_draw := by
  obtain ⟨fd, F⟩ := M.d__law_draw
  refine fnD_of (b := b__law_draw) F sc__law_draw (F.bindsN fun _ _ _ _ _ _ us hl => match us, hl with | [_, _], _ => rfl) fun cdv A outer sh H E base g => ?_
  exact (ss_cons (s_if (st_cmp op_gt sem_gt (se_ix ix_seq sem_ix (se_var (pv 0)) se_int (fun _ _ => rfl)) se_int (nomark _)) (ss_cons (s_setV sc__law_draw.nd (i := 4) rfl (by first | exact .inl rfl | exact .inr rfl) (se_bin op_mod sem_mod (se_callTy call_int1 sem_int (by rfl) M.b_int bo_int (sa_cons (se_ix ix_seq sem_ix (se_var (pv 0)) se_int (fun _ _ => rfl)) sa_nil)) (se_var (pv 1))))
  (ss_cons (s_setIx (se_bin op_fdivW sem_div (se_ix ix_seq sem_ix (se_var (pv 0)) se_int (fun _ _ => rfl)) (se_var (pv 1))) (se_var (pv 0)) se_int)
  (ss_one (s_ret (se_var (pv 4)))))) ss_nil)
  (ss_cons (s_setIx (se_bin op_add2 sem_add (se_ix ix_seq sem_ix (se_var (pv 0)) se_int (fun _ _ => rfl)) se_int) (se_var (pv 0)) se_int)
  (ss_cons (s_setV sc__law_draw.nd (i := 2) rfl (by first | exact .inl rfl | exact .inr rfl) (se_bin op_mod sem_mod (se_callTy call_int1 sem_int (by rfl) M.b_int bo_int (sa_cons (se_bin op_add2 sem_add (se_ix ix_seq sem_ix (se_var (pv 0)) se_int (fun _ _ => rfl)) (se_bin op_mul2 sem_mul se_int (se_ix ix_seq sem_ix (se_var (pv 0)) se_int (fun _ _ => rfl)))) sa_nil)) se_int))
  (ss_cons (s_setV sc__law_draw.nd (i := 3) rfl (by first | exact .inl rfl | exact .inr rfl) (se_bin op_add2 sem_add (se_bin op_mul2 sem_mul (se_bin op_mod sem_mod (se_callTy call_int1 sem_int (by rfl) M.b_int bo_int (sa_cons (se_bin op_add2 sem_add (se_bin op_mul2 sem_mul (se_var (pv 2)) (se_var (pv 2))) (se_bin op_mul2 sem_mul se_int (se_ix ix_seq sem_ix (se_var (pv 0)) se_int (fun _ _ => rfl)))) sa_nil)) se_int) se_int) (se_var (pv 2))))
  (ss_one (s_ret (se_bin op_mod sem_mod (se_callTy call_int1 sem_int (by rfl) M.b_int bo_int (sa_cons (se_bin op_fdivW sem_div (se_var (pv 3)) se_int) sa_nil)) (se_var (pv 1)))))))))
noncomputable def b__law_one_of (base : Nat) : MS :=
  (mRet (mOp dIx' (mVar 1) (mCall d__law_draw 2 (aCons (mVar 0) (aCons (mBlt cLen (aCons (mVar 1) aNil)) aNil)))))
noncomputable def d__law_one_of : Fn := mDef 2 b__law_one_of
theorem F__law_one_of {G : Gd} (M : Mg G) : FnD G 2 (He.ga G.K "_law_one_of") 2 d__law_one_of := by
  obtain ⟨fd, F⟩ := M.d__law_one_of
  refine fnD_of (b := b__law_one_of) F sc__law_one_of (F.bindsN fun _ _ _ _ _ _ us hl => match us, hl with | [_, _], _ => rfl) fun cdv A outer sh H E base g => ?_
  exact (ss_one (s_ret (se_ix ix_seq sem_ix (se_var (pv 1)) (se_call g (F__law_draw M) (by decide) (by rfl) M.g__law_draw M.d__law_draw.kp (sa_cons (se_var (pv 0)) (sa_cons (se_callB call_len sem_len (by rfl) M.b_len bo_len (sa_cons (se_var (pv 1)) sa_nil)) sa_nil))) (fun _ _ => rfl))))
noncomputable def b_all_know (base : Nat) : MS :=
  (mSeq (mSetV base 2 (mCall d_people_in 2 (aCons (mVar 1) (aCons (mBlt cLen (aCons (mVar 0) aNil)) aNil))))
  (mRet (mBlt cAllV (aCons (mComp (srL (mVar 2)) [3] (gN 3) tYesM (mOp dEq (mOp dAnd (mVar 1) (mUn dInv (mOp dOr (mOp dIx' (mVar 0) (mVar 3)) (mOp dShl (mK (.int 1)) (mVar 3))))) (mK (.int 0)))) aNil))))
noncomputable def d_all_know : Fn := mDef 4 b_all_know
theorem F_all_know {G : Gd} (M : Mg G) : FnD G 2 (He.ga G.K "all_know") 2 d_all_know := by
  obtain ⟨fd, F⟩ := M.d_all_know
  refine fnD_of (b := b_all_know) F sc_all_know (F.bindsN fun _ _ _ _ _ _ us hl => match us, hl with | [_, _], _ => rfl) fun cdv A outer sh H E base g => ?_
  exact (ss_cons (s_setV sc_all_know.nd (i := 2) rfl (by first | exact .inl rfl | exact .inr rfl) (se_call g (F_people_in M) (by decide) (by rfl) M.g_people_in M.d_people_in.kp (sa_cons (se_var (pv 1)) (sa_cons (se_callB call_len sem_len (by rfl) M.b_len bo_len (sa_cons (se_var (pv 0)) sa_nil)) sa_nil))))
  (ss_one (s_ret (se_callB (cr_allV g.calm) sem_allV (by rfl) M.b_all bo_all (sa_cons (se_comp g.calm sc_all_know.nd (si_list (se_var (pv 2))) (own := [("person", 3)]) (blk_ok (by kernel_rfl)) rfl (fun _ _ _ _ _ => (sg_name sc_all_know.nd (i := 3) rfl (by first | exact .inl rfl | exact .inr rfl) (by decide))) (fun _ _ _ _ _ => sts_nil) (fun _ _ _ _ _ => (se_cmp (op_eq2 (g.blk _ _ _ _ _).hu') sem_eq (se_bin op_and sem_band (se_var (pv 1)) (se_un un_inv sem_inv (se_bin op_or sem_bor (se_ix ix_seq sem_ix (se_var (pv 0)) (se_var (pv 3)) (fun _ _ => rfl)) (se_bin op_shl sem_shl se_int (se_var (pv 3)))))) se_int (nomark _)))) sa_nil)))))
noncomputable def b_is_simple_in (base : Nat) : MS :=
  (mRet (mCall d_all_know 2 (aCons (mVar 0) (aCons (mOp dAnd (mOp dIx' (mVar 0) (mVar 2)) (mVar 1)) aNil))))
noncomputable def d_is_simple_in : Fn := mDef 3 b_is_simple_in
theorem F_is_simple_in {G : Gd} (M : Mg G) : FnD G 3 (He.ga G.K "is_simple_in") 3 d_is_simple_in := by
  obtain ⟨fd, F⟩ := M.d_is_simple_in
  refine fnD_of (b := b_is_simple_in) F sc_is_simple_in (F.bindsN fun _ _ _ _ _ _ us hl => match us, hl with | [_, _, _], _ => rfl) fun cdv A outer sh H E base g => ?_
  exact (ss_one (s_ret (se_call g (F_all_know M) (by decide) (by rfl) M.g_all_know M.d_all_know.kp (sa_cons (se_var (pv 0)) (sa_cons (se_bin op_and sem_band (se_ix ix_seq sem_ix (se_var (pv 0)) (se_var (pv 2)) (fun _ _ => rfl)) (se_var (pv 1))) sa_nil)))))
noncomputable def b_taken_off (base : Nat) : MS :=
  (mSeq (parN base [(2, false, (mOp dSub (mOp dShl (mK (.int 1)) (mBlt cLen (aCons (mVar 0) aNil))) (mK (.int 1)))), (3, true, (mLst aNil))])
  (mSeq (mSetV base 1 (mK (.bl false)))
  (mSeq (mWhile (mNotT (mT (mVar 1))) (mSeq (mSetV base 4 (mComp (srL (mCall d_people_in 2 (aCons (mVar 2) (aCons (mBlt cLen (aCons (mVar 0) aNil)) aNil)))) [5] (gN 5) (mT (mCall d_is_simple_in 3 (aCons (mVar 0) (aCons (mVar 2) (aCons (mVar 5) aNil))))) (mVar 5)))
  (mSeq (mSetV base 1 (mOp dEq (mVar 4) (mLst aNil)))
  (mIfS (mNotT (mT (mVar 1))) (mSeq (mDrop (mMut fAppend (mVar 3) (aCons (mOp dIx' (mVar 4) (mK (.int 0))) aNil)))
  (mAug dAnd base 2 (mUn dInv (mOp dShl (mK (.int 1)) (mOp dIx' (mVar 4) (mK (.int 0))))))) mSkip))) 1000000)
  (mRetF base (mTup (aCons (mVar 3) (aCons (mVar 2) aNil)))))))
noncomputable def d_taken_off : Fn := mDef 6 b_taken_off
theorem F_taken_off {G : Gd} (M : Mg G) : FnD G 4 (He.ga G.K "taken_off") 1 d_taken_off := by
  obtain ⟨fd, F⟩ := M.d_taken_off
  refine fnD_of (b := b_taken_off) F sc_taken_off (F.bindsN fun _ _ _ _ _ _ us hl => match us, hl with | [_], _ => rfl) fun cdv A outer sh H E base g => ?_
  exact (ss_cons (s_parT (ts := [(2, false, (mOp dSub (mOp dShl (mK (.int 1)) (mBlt cLen (aCons (mVar 0) aNil))) (mK (.int 1)))), (3, true, (mLst aNil))]) g.calm (pn_cons (se_bin op_sub sem_sub (se_bin op_shl sem_shl se_int (se_callB call_len sem_len (by rfl) M.b_len bo_len (sa_cons (se_var (pv 0)) sa_nil))) se_int) (pn_cons (se_lst sa_nil) pn_nil)) (pgs_cons (pg_name sc_taken_off.nd (i := 2) rfl (by first | exact .inl rfl | exact .inr rfl)) (pgs_cons (pg_name sc_taken_off.nd (i := 3) rfl (by first | exact .inl rfl | exact .inr rfl)) pgs_nil)) (by decide) (by decide))
  (ss_cons (s_setV sc_taken_off.nd (i := 1) rfl (by first | exact .inl rfl | exact .inr rfl) se_bl)
  (ss_cons (s_while (passes_of rfl) (st_not (st_truth (se_var (pv 1)))) (ss_cons (s_lcV g.calm sc_taken_off.nd (i := 4) rfl rfl rfl (si_list (se_call g (F_people_in M) (by decide) (by rfl) M.g_people_in M.d_people_in.kp (sa_cons (se_var (pv 2)) (sa_cons (se_callB call_len sem_len (by rfl) M.b_len bo_len (sa_cons (se_var (pv 0)) sa_nil)) sa_nil)))) (own := [("person", 5)]) (blk_ok (by kernel_rfl)) rfl (fun _ _ _ _ _ => (sg_name sc_taken_off.nd (i := 5) rfl (by first | exact .inl rfl | exact .inr rfl) (by decide))) (fun _ _ _ _ _ => (sts_one (st_truth (se_call (g.blk _ _ _ _ _) (F_is_simple_in M) (by decide) (by rfl) M.g_is_simple_in M.d_is_simple_in.kp (sa_cons (se_var (pv 0)) (sa_cons (se_var (pv 2)) (sa_cons (se_var (pv 5)) sa_nil))))))) (fun _ _ _ _ _ => (se_var (pv 5))))
  (ss_cons (s_setV sc_taken_off.nd (i := 1) rfl (by first | exact .inl rfl | exact .inr rfl) (se_cmp (op_eq2 g.hu') sem_eq (se_var (pv 4)) (se_lst sa_nil) (nomark _)))
  (ss_one (s_if (st_not (st_truth (se_var (pv 1)))) (ss_cons (s_expr (se_mut PySem.F.slot_list_append PySem.F.type_list_append mt_append sem_append (se_var (pv 3)) (sa_cons (se_ix ix_seq sem_ix (se_var (pv 4)) se_int (fun _ _ => rfl)) sa_nil)))
  (ss_one (s_aug sc_taken_off.nd (k := 2) rfl (by first | exact .inl rfl | exact .inr rfl) (se_un un_inv sem_inv (se_bin op_shl sem_shl se_int (se_ix ix_seq sem_ix (se_var (pv 4)) se_int (fun _ _ => rfl)))) iop_and sem_band))) ss_nil)))))
  (ss_one (s_retF (se_tup (sa_cons (se_var (pv 3)) (sa_cons (se_var (pv 2)) sa_nil))))))))
noncomputable def b_sequence_in (base : Nat) : MS :=
  (mSeq (mAsg (gT (gsC (gN 1) (gsC (gN 2) gs0))) (mCall d_taken_off 1 (aCons (mCall d_rows_in 1 (aCons (mVar 0) aNil)) aNil)))
  (mRet (mIf (mTB (mOp dEq (mVar 2) (mK (.int 0)))) (mBlt cTuple (aCons (mVar 1) aNil)) (mK .non))))
noncomputable def d_sequence_in : Fn := mDef 3 b_sequence_in
theorem F_sequence_in {G : Gd} (M : Mg G) : FnD G 5 (He.ga G.K "sequence_in") 1 d_sequence_in := by
  obtain ⟨fd, F⟩ := M.d_sequence_in
  refine fnD_of (b := b_sequence_in) F sc_sequence_in (F.bindsN fun _ _ _ _ _ _ us hl => match us, hl with | [_], _ => rfl) fun cdv A outer sh H E base g => ?_
  exact (ss_cons (s_asgT (se_call g (F_taken_off M) (by decide) (by rfl) M.g_taken_off M.d_taken_off.kp (sa_cons (se_call g (F_rows_in M) (by decide) (by rfl) M.g_rows_in M.d_rows_in.kp (sa_cons (se_var (pv 0)) sa_nil)) sa_nil)) (sg_tup g.calm (sgs_cons (sg_name sc_sequence_in.nd (i := 1) rfl (by first | exact .inl rfl | exact .inr rfl) (by decide)) (sgs_cons (sg_name sc_sequence_in.nd (i := 2) rfl (by first | exact .inl rfl | exact .inr rfl) (by decide)) sgs_nil)) rfl rfl (gsC_len (gsC_len gs0_len))) (vs := [1, 2]))
  (ss_one (s_ret (se_ifExp (st_cmp (op_eq2 g.hu') sem_eq (se_var (pv 2)) se_int (nomark _)) (se_callTy call_tuple_of sem_tuple (by rfl) M.b_tuple bo_tuple (sa_cons (se_var (pv 1)) sa_nil)) se_non))))
noncomputable def b_has_ring (base : Nat) : MS :=
  (mSeq (mDrop (mCall d_require_table 1 (aCons (mVar 0) aNil)))
  (mRet (mIsN (mCall d_sequence_in 1 (aCons (mVar 0) aNil)))))
noncomputable def d_has_ring : Fn := mDef 1 b_has_ring
theorem F_has_ring {G : Gd} (M : Mg G) : FnD G 6 (He.ga G.K "has_ring") 1 d_has_ring := by
  obtain ⟨fd, F⟩ := M.d_has_ring
  refine fnD_of (b := b_has_ring) F sc_has_ring (F.bindsN fun _ _ _ _ _ _ us hl => match us, hl with | [_], _ => rfl) fun cdv A outer sh H E base g => ?_
  exact (ss_cons (s_expr (se_call g (F_require_table M) (by decide) (by rfl) M.g_require_table M.d_require_table.kp (sa_cons (se_var (pv 0)) sa_nil)))
  (ss_one (s_ret (se_isN g.zn (se_call g (F_sequence_in M) (by decide) (by rfl) M.g_sequence_in M.d_sequence_in.kp (sa_cons (se_var (pv 0)) sa_nil))))))
noncomputable def b_way_in (base : Nat) : MS :=
  (mSeq (mPar base 4 5 false (mLst (aCons (mTup (aCons (mVar 2) aNil)) aNil)) (mOp dShl (mK (.int 1)) (mVar 2)))
  (mSeq (mWhile (mTB (mOp dNe (mVar 4) (mLst aNil))) (mSeq (mSetO base 6 (mLst aNil))
  (mSeq (mFor (srL (mVar 4)) (gN 7) (mSeq (mIfS (mT (mOp dAnd (mOp dShr (mOp dIx' (mVar 0) (mOp dIx' (mVar 7) (mUn dNeg (mK (.int 1))))) (mVar 3)) (mK (.int 1)))) (mRet (mTup (aStar (mVar 7) (aCons (mVar 3) aNil)))) mSkip)
  (mFor (srL (mCall d_people_in 2 (aCons (mOp dAnd (mOp dAnd (mOp dIx' (mVar 0) (mOp dIx' (mVar 7) (mUn dNeg (mK (.int 1))))) (mVar 1)) (mUn dInv (mVar 5))) (aCons (mBlt cLen (aCons (mVar 0) aNil)) aNil)))) (gN 8) (mSeq (mAug dOr base 5 (mOp dShl (mK (.int 1)) (mVar 8)))
  (mDrop (mMut fAppend (mVar 6) (aCons (mTup (aStar (mVar 7) (aCons (mVar 8) aNil))) aNil)))))))
  (mSetV base 4 (mVar 6)))) 1000000)
  (mRet (mK .non))))
noncomputable def d_way_in : Fn := mDef 9 b_way_in
theorem F_way_in {G : Gd} (M : Mg G) : FnD G 2 (He.ga G.K "way_in") 4 d_way_in := by
  obtain ⟨fd, F⟩ := M.d_way_in
  refine fnD_of (b := b_way_in) F sc_way_in (F.bindsN fun _ _ _ _ _ _ us hl => match us, hl with | [_, _, _, _], _ => rfl) fun cdv A outer sh H E base g => ?_
  exact (ss_cons (s_par g.calm sc_way_in.nd (i := 4) (j := 5) rfl rfl (by decide) rfl rfl (se_lst (sa_cons (se_tup (sa_cons (se_var (pv 2)) sa_nil)) sa_nil)) (se_bin op_shl sem_shl se_int (se_var (pv 2))) rfl (oj := false))
  (ss_cons (s_while (passes_of rfl) (st_cmp (op_ne2 g.hu') sem_ne (se_var (pv 4)) (se_lst sa_nil) (nomark _)) (ss_cons (s_setO sc_way_in.nd (i := 6) rfl (by first | exact .inl rfl | exact .inr rfl) (se_lst sa_nil))
  (ss_cons (s_for (passes_of rfl) g.calm (si_list (se_var (pv 4))) (sg_name sc_way_in.nd (i := 7) rfl (by first | exact .inl rfl | exact .inr rfl) (by decide)) (ss_cons (s_if (st_truth (se_bin op_and sem_band (se_bin op_shr sem_shr (se_ix ix_seq sem_ix (se_var (pv 0)) (se_ix ix_seq sem_ix (se_var (pv 7)) (se_un un_neg sem_neg se_int) (fun _ _ => rfl)) (fun _ _ => rfl)) (se_var (pv 3))) se_int)) (ss_one (s_ret (se_tup (sa_star (se_var (pv 7)) (sa_cons (se_var (pv 3)) sa_nil))))) ss_nil)
  (ss_one (s_for (passes_of rfl) g.calm (si_list (se_call g (F_people_in M) (by decide) (by rfl) M.g_people_in M.d_people_in.kp (sa_cons (se_bin op_and sem_band (se_bin op_and sem_band (se_ix ix_seq sem_ix (se_var (pv 0)) (se_ix ix_seq sem_ix (se_var (pv 7)) (se_un un_neg sem_neg se_int) (fun _ _ => rfl)) (fun _ _ => rfl)) (se_var (pv 1))) (se_un un_inv sem_inv (se_var (pv 5)))) (sa_cons (se_callB call_len sem_len (by rfl) M.b_len bo_len (sa_cons (se_var (pv 0)) sa_nil)) sa_nil)))) (sg_name sc_way_in.nd (i := 8) rfl (by first | exact .inl rfl | exact .inr rfl) (by decide)) (ss_cons (s_aug sc_way_in.nd (k := 5) rfl (by first | exact .inl rfl | exact .inr rfl) (se_bin op_shl sem_shl se_int (se_var (pv 8))) iop_or sem_bor)
  (ss_one (s_expr (se_mut PySem.F.slot_list_append PySem.F.type_list_append mt_append sem_append (se_var (pv 6)) (sa_cons (se_tup (sa_star (se_var (pv 7)) (sa_cons (se_var (pv 8)) sa_nil))) sa_nil))))) (vs := [8])))) (vs := [7]))
  (ss_one (s_setV sc_way_in.nd (i := 4) rfl (by first | exact .inl rfl | exact .inr rfl) (se_var (pv 6)))))))
  (ss_one (s_ret se_non))))
noncomputable def b_ring_around (base : Nat) : MS :=
  (mSeq (mSetV base 4 (mBlt cLen (aCons (mVar 0) aNil)))
  (mSeq (mSetV base 5 (mOp dAnd (mOp dSub (mOp dShl (mK (.int 1)) (mVar 4)) (mK (.int 1))) (mUn dInv (mOp dOr (mOp dIx' (mVar 0) (mVar 1)) (mOp dShl (mK (.int 1)) (mVar 1))))))
  (mSeq (mSetV base 6 (mCall d_way_in 4 (aCons (mVar 0) (aCons (mVar 5) (aCons (mVar 2) (aCons (mVar 3) aNil))))))
  (mRet (mIf (mTB (mNotN (mVar 6))) (mTup (aCons (mVar 1) (aStar (mVar 6) aNil))) (mK .non))))))
noncomputable def d_ring_around : Fn := mDef 7 b_ring_around
theorem F_ring_around {G : Gd} (M : Mg G) : FnD G 3 (He.ga G.K "ring_around") 4 d_ring_around := by
  obtain ⟨fd, F⟩ := M.d_ring_around
  refine fnD_of (b := b_ring_around) F sc_ring_around (F.bindsN fun _ _ _ _ _ _ us hl => match us, hl with | [_, _, _, _], _ => rfl) fun cdv A outer sh H E base g => ?_
  exact (ss_cons (s_setV sc_ring_around.nd (i := 4) rfl (by first | exact .inl rfl | exact .inr rfl) (se_callB call_len sem_len (by rfl) M.b_len bo_len (sa_cons (se_var (pv 0)) sa_nil)))
  (ss_cons (s_setV sc_ring_around.nd (i := 5) rfl (by first | exact .inl rfl | exact .inr rfl) (se_bin op_and sem_band (se_bin op_sub sem_sub (se_bin op_shl sem_shl se_int (se_var (pv 4))) se_int) (se_un un_inv sem_inv (se_bin op_or sem_bor (se_ix ix_seq sem_ix (se_var (pv 0)) (se_var (pv 1)) (fun _ _ => rfl)) (se_bin op_shl sem_shl se_int (se_var (pv 1)))))))
  (ss_cons (s_setV sc_ring_around.nd (i := 6) rfl (by first | exact .inl rfl | exact .inr rfl) (se_call g (F_way_in M) (by decide) (by rfl) M.g_way_in M.d_way_in.kp (sa_cons (se_var (pv 0)) (sa_cons (se_var (pv 5)) (sa_cons (se_var (pv 2)) (sa_cons (se_var (pv 3)) sa_nil))))))
  (ss_one (s_ret (se_ifExp (st_notN g.zn (se_var (pv 6))) (se_tup (sa_cons (se_var (pv 1)) (sa_star (se_var (pv 6)) sa_nil))) se_non))))))
noncomputable def b_ring_in (base : Nat) : MS :=
  (mSeq (mSetV base 1 (mCall d_rows_in 1 (aCons (mVar 0) aNil)))
  (mSeq (mFor (srR1 (aCons (mFld 0 1 (mVar 0)) aNil)) (gN 2) (mSeq (mSetV base 3 (mCall d_people_in 2 (aCons (mOp dIx' (mVar 1) (mVar 2)) (aCons (mFld 0 1 (mVar 0)) aNil))))
  (mFor (srE2 (aCons (mVar 3) aNil)) (gT (gsC (gN 4) (gsC (gN 5) gs0))) (mFor (srL (mCut (mVar 3) (oSome (mOp dAdd (mVar 4) (mK (.int 1)))) oNone)) (gN 6) (mSeq (mSetV base 7 (mIf (mNotT (mT (mOp dAnd (mOp dShr (mOp dIx' (mVar 1) (mVar 5)) (mVar 6)) (mK (.int 1))))) (mCall d_ring_around 4 (aCons (mVar 1) (aCons (mVar 2) (aCons (mVar 5) (aCons (mVar 6) aNil))))) (mK .non)))
  (mIfS (mTB (mNotN (mVar 7))) (mRet (mVar 7)) mSkip))))))
  (mRet (mK .non))))
noncomputable def d_ring_in : Fn := mDef 8 b_ring_in
theorem F_ring_in {G : Gd} (M : Mg G) : FnD G 4 (He.ga G.K "ring_in") 1 d_ring_in := by
  obtain ⟨fd, F⟩ := M.d_ring_in
  refine fnD_of (b := b_ring_in) F sc_ring_in (F.bindsN fun _ _ _ _ _ _ us hl => match us, hl with | [_], _ => rfl) fun cdv A outer sh H E base g => ?_
  exact (ss_cons (s_setV sc_ring_in.nd (i := 1) rfl (by first | exact .inl rfl | exact .inr rfl) (se_call g (F_rows_in M) (by decide) (by rfl) M.g_rows_in M.d_rows_in.kp (sa_cons (se_var (pv 0)) sa_nil)))
  (ss_cons (s_for (passes_of rfl) g.calm (si_range1 (by rfl) M.b_range (sa_cons (se_fld g M.oc_0 M.sl_own_size (se_var (pv 0))) sa_nil)) (sg_name sc_ring_in.nd (i := 2) rfl (by first | exact .inl rfl | exact .inr rfl) (by decide)) (ss_cons (s_setV sc_ring_in.nd (i := 3) rfl (by first | exact .inl rfl | exact .inr rfl) (se_call g (F_people_in M) (by decide) (by rfl) M.g_people_in M.d_people_in.kp (sa_cons (se_ix ix_seq sem_ix (se_var (pv 1)) (se_var (pv 2)) (fun _ _ => rfl)) (sa_cons (se_fld g M.oc_0 M.sl_own_size (se_var (pv 0))) sa_nil))))
  (ss_one (s_for (passes_of rfl) g.calm (si_enum2 (by rfl) M.b_enumerate (sa_cons (se_var (pv 3)) sa_nil)) (sg_tup g.calm (sgs_cons (sg_name sc_ring_in.nd (i := 4) rfl (by first | exact .inl rfl | exact .inr rfl) (by decide)) (sgs_cons (sg_name sc_ring_in.nd (i := 5) rfl (by first | exact .inl rfl | exact .inr rfl) (by decide)) sgs_nil)) rfl rfl (gsC_len (gsC_len gs0_len))) (ss_one (s_for (passes_of rfl) g.calm (si_list (se_cut (se_var (pv 3)) (so_some (se_bin op_add2 sem_add (se_var (pv 4)) se_int)) so_none)) (sg_name sc_ring_in.nd (i := 6) rfl (by first | exact .inl rfl | exact .inr rfl) (by decide)) (ss_cons (s_setV sc_ring_in.nd (i := 7) rfl (by first | exact .inl rfl | exact .inr rfl) (se_ifExp (st_not (st_truth (se_bin op_and sem_band (se_bin op_shr sem_shr (se_ix ix_seq sem_ix (se_var (pv 1)) (se_var (pv 5)) (fun _ _ => rfl)) (se_var (pv 6))) se_int))) (se_call g (F_ring_around M) (by decide) (by rfl) M.g_ring_around M.d_ring_around.kp (sa_cons (se_var (pv 1)) (sa_cons (se_var (pv 2)) (sa_cons (se_var (pv 5)) (sa_cons (se_var (pv 6)) sa_nil))))) se_non))
  (ss_one (s_if (st_notN g.zn (se_var (pv 7))) (ss_one (s_ret (se_var (pv 7)))) ss_nil))) (vs := [6]))) (vs := [4, 5])))) (vs := [2]))
  (ss_one (s_ret se_non))))
noncomputable def b_ring_paper (base : Nat) : MS :=
  (mSeq (mDrop (mCall d_require_table 1 (aCons (mVar 0) aNil)))
  (mSeq (mSetV base 1 (mCall d_sequence_in 1 (aCons (mVar 0) aNil)))
  (mRet (mIf (mTB (mNotN (mVar 1))) (mTup (aCons (mK (.str "sequence")) (aCons (mVar 1) aNil))) (mTup (aCons (mK (.str "ring")) (aCons (mCall d_ring_in 1 (aCons (mVar 0) aNil)) aNil)))))))
noncomputable def d_ring_paper : Fn := mDef 2 b_ring_paper
theorem F_ring_paper {G : Gd} (M : Mg G) : FnD G 6 (He.ga G.K "ring_paper") 1 d_ring_paper := by
  obtain ⟨fd, F⟩ := M.d_ring_paper
  refine fnD_of (b := b_ring_paper) F sc_ring_paper (F.bindsN fun _ _ _ _ _ _ us hl => match us, hl with | [_], _ => rfl) fun cdv A outer sh H E base g => ?_
  exact (ss_cons (s_expr (se_call g (F_require_table M) (by decide) (by rfl) M.g_require_table M.d_require_table.kp (sa_cons (se_var (pv 0)) sa_nil)))
  (ss_cons (s_setV sc_ring_paper.nd (i := 1) rfl (by first | exact .inl rfl | exact .inr rfl) (se_call g (F_sequence_in M) (by decide) (by rfl) M.g_sequence_in M.d_sequence_in.kp (sa_cons (se_var (pv 0)) sa_nil)))
  (ss_one (s_ret (se_ifExp (st_notN g.zn (se_var (pv 1))) (se_tup (sa_cons (se_gstr (by rfl) M.c_SEQUENCE) (sa_cons (se_var (pv 1)) sa_nil))) (se_tup (sa_cons (se_gstr (by rfl) M.c_RING) (sa_cons (se_call g (F_ring_in M) (by decide) (by rfl) M.g_ring_in M.d_ring_in.kp (sa_cons (se_var (pv 0)) sa_nil)) sa_nil))))))))
noncomputable def b_simple_people (base : Nat) : MS :=
  (mSeq (mDrop (mCall d_require_table 1 (aCons (mVar 0) aNil)))
  (mSeq (mSetV base 1 (mCall d_rows_in 1 (aCons (mVar 0) aNil)))
  (mSeq (mSetV base 2 (mOp dSub (mOp dShl (mK (.int 1)) (mFld 0 1 (mVar 0))) (mK (.int 1))))
  (mRet (mBlt cTuple (aCons (mComp (srR1 (aCons (mFld 0 1 (mVar 0)) aNil)) [3] (gN 3) (mT (mCall d_is_simple_in 3 (aCons (mVar 1) (aCons (mVar 2) (aCons (mVar 3) aNil))))) (mVar 3)) aNil))))))
noncomputable def d_simple_people : Fn := mDef 4 b_simple_people
theorem F_simple_people {G : Gd} (M : Mg G) : FnD G 4 (He.ga G.K "simple_people") 1 d_simple_people := by
  obtain ⟨fd, F⟩ := M.d_simple_people
  refine fnD_of (b := b_simple_people) F sc_simple_people (F.bindsN fun _ _ _ _ _ _ us hl => match us, hl with | [_], _ => rfl) fun cdv A outer sh H E base g => ?_
  exact (ss_cons (s_expr (se_call g (F_require_table M) (by decide) (by rfl) M.g_require_table M.d_require_table.kp (sa_cons (se_var (pv 0)) sa_nil)))
  (ss_cons (s_setV sc_simple_people.nd (i := 1) rfl (by first | exact .inl rfl | exact .inr rfl) (se_call g (F_rows_in M) (by decide) (by rfl) M.g_rows_in M.d_rows_in.kp (sa_cons (se_var (pv 0)) sa_nil)))
  (ss_cons (s_setV sc_simple_people.nd (i := 2) rfl (by first | exact .inl rfl | exact .inr rfl) (se_bin op_sub sem_sub (se_bin op_shl sem_shl se_int (se_fld g M.oc_0 M.sl_own_size (se_var (pv 0)))) se_int))
  (ss_one (s_ret (se_callTy call_tuple_of sem_tuple (by rfl) M.b_tuple bo_tuple (sa_cons (se_comp g.calm sc_simple_people.nd (si_range1 (by rfl) M.b_range (sa_cons (se_fld g M.oc_0 M.sl_own_size (se_var (pv 0))) sa_nil)) (own := [("person", 3)]) (blk_ok (by kernel_rfl)) rfl (fun _ _ _ _ _ => (sg_name sc_simple_people.nd (i := 3) rfl (by first | exact .inl rfl | exact .inr rfl) (by decide))) (fun _ _ _ _ _ => (sts_one (st_truth (se_call (g.blk _ _ _ _ _) (F_is_simple_in M) (by decide) (by rfl) M.g_is_simple_in M.d_is_simple_in.kp (sa_cons (se_var (pv 1)) (sa_cons (se_var (pv 2)) (sa_cons (se_var (pv 3)) sa_nil))))))) (fun _ _ _ _ _ => (se_var (pv 3)))) sa_nil)))))))
noncomputable def b_can_begin (base : Nat) : MS :=
  (mSeq (mPar base 3 4 false (mCall d_rows_in 1 (aCons (mVar 0) aNil)) (mOp dSub (mOp dShl (mK (.int 1)) (mFld 0 1 (mVar 0))) (mK (.int 1))))
  (mSeq (mIfS (mTB (mNotN (mCall d_ring_in 1 (aCons (mVar 0) aNil)))) (mRet (mK (.bl false))) mSkip)
  (mSeq (mFor (srQ (mVar 1)) (gN 2) (mSeq (mIfS (mNotT (mT (mCall d_is_simple_in 3 (aCons (mVar 3) (aCons (mVar 4) (aCons (mVar 2) aNil)))))) (mRet (mK (.bl false))) mSkip)
  (mAug dAnd base 4 (mUn dInv (mOp dShl (mK (.int 1)) (mVar 2))))))
  (mRet (mK (.bl true))))))
noncomputable def d_can_begin : Fn := mDef 5 b_can_begin
theorem F_can_begin {G : Gd} (M : Mg G) : FnD G 5 (He.ga G.K "can_begin") 2 d_can_begin := by
  obtain ⟨fd, F⟩ := M.d_can_begin
  refine fnD_of (b := b_can_begin) F sc_can_begin (F.bindsN fun _ _ _ _ _ _ us hl => match us, hl with | [_, _], _ => rfl) fun cdv A outer sh H E base g => ?_
  exact (ss_cons (s_par g.calm sc_can_begin.nd (i := 3) (j := 4) rfl rfl (by decide) rfl rfl (se_call g (F_rows_in M) (by decide) (by rfl) M.g_rows_in M.d_rows_in.kp (sa_cons (se_var (pv 0)) sa_nil)) (se_bin op_sub sem_sub (se_bin op_shl sem_shl se_int (se_fld g M.oc_0 M.sl_own_size (se_var (pv 0)))) se_int) rfl (oj := false))
  (ss_cons (s_if (st_notN g.zn (se_call g (F_ring_in M) (by decide) (by rfl) M.g_ring_in M.d_ring_in.kp (sa_cons (se_var (pv 0)) sa_nil))) (ss_one (s_ret se_bl)) ss_nil)
  (ss_cons (s_for (passes_of rfl) g.calm (si_seq (se_var (pv 1))) (sg_name sc_can_begin.nd (i := 2) rfl (by first | exact .inl rfl | exact .inr rfl) (by decide)) (ss_cons (s_if (st_not (st_truth (se_call g (F_is_simple_in M) (by decide) (by rfl) M.g_is_simple_in M.d_is_simple_in.kp (sa_cons (se_var (pv 3)) (sa_cons (se_var (pv 4)) (sa_cons (se_var (pv 2)) sa_nil)))))) (ss_one (s_ret se_bl)) ss_nil)
  (ss_one (s_aug sc_can_begin.nd (k := 4) rfl (by first | exact .inl rfl | exact .inr rfl) (se_un un_inv sem_inv (se_bin op_shl sem_shl se_int (se_var (pv 2)))) iop_and sem_band))) (vs := [2]))
  (ss_one (s_ret se_bl)))))
noncomputable def b_can_go_on (base : Nat) : MS :=
  (mSeq (mDrop (mCall d_require_table 1 (aCons (mVar 0) aNil)))
  (mRet (mAnd (mCall d_are_people 2 (aCons (mFld 0 1 (mVar 0)) (aCons (mVar 1) aNil))) (mCall d_can_begin 2 (aCons (mVar 0) (aCons (mVar 1) aNil))))))
noncomputable def d_can_go_on : Fn := mDef 2 b_can_go_on
theorem F_can_go_on {G : Gd} (M : Mg G) : FnD G 6 (He.ga G.K "can_go_on") 2 d_can_go_on := by
  obtain ⟨fd, F⟩ := M.d_can_go_on
  refine fnD_of (b := b_can_go_on) F sc_can_go_on (F.bindsN fun _ _ _ _ _ _ us hl => match us, hl with | [_, _], _ => rfl) fun cdv A outer sh H E base g => ?_
  exact (ss_cons (s_expr (se_call g (F_require_table M) (by decide) (by rfl) M.g_require_table M.d_require_table.kp (sa_cons (se_var (pv 0)) sa_nil)))
  (ss_one (s_ret (se_and (se_call g (F_are_people M) (by decide) (by rfl) M.g_are_people M.d_are_people.kp (sa_cons (se_fld g M.oc_0 M.sl_own_size (se_var (pv 0))) (sa_cons (se_var (pv 1)) sa_nil))) (se_one (se_call g (F_can_begin M) (by decide) (by rfl) M.g_can_begin M.d_can_begin.kp (sa_cons (se_var (pv 0)) (sa_cons (se_var (pv 1)) sa_nil))))))))
noncomputable def b__law_plain (base : Nat) : MS :=
  (mSeq (mSetO base 1 (mLst (aCons (mLam 1 "_law_plain" mr__law_met (mCall d_has_ring 1 (aCons (mVar 0) aNil))) (aCons (mLam 1 "_law_plain" mr__law_met (mCall d_is_ring 2 (aCons (mVar 0) (aCons (mK .non) aNil)))) aNil))))
  (mSeq (mDrop (mMut fAppend (mVar 1) (aCons (mLam 1 "_law_plain" mr__law_met (mCall d_is_sequence 2 (aCons (mVar 0) (aCons (mK .non) aNil)))) aNil)))
  (mSeq (mDrop (mMut fAppend (mVar 1) (aCons (mLam 1 "_law_plain" mr__law_met (mCall d_ring_paper 1 (aCons (mVar 0) aNil))) aNil)))
  (mSeq (mDrop (mMut fAppend (mVar 1) (aCons (mLam 1 "_law_plain" mr__law_met (mCall d_is_ring_paper 2 (aCons (mVar 0) (aCons (mK .non) aNil)))) aNil)))
  (mSeq (mDrop (mMut fAppend (mVar 1) (aCons (mLam 1 "_law_plain" mr__law_met (mCall d_simple_people 1 (aCons (mVar 0) aNil))) aNil)))
  (mSeq (mDrop (mMut fAppend (mVar 1) (aCons (mLam 1 "_law_plain" mr__law_met (mCall d_can_go_on 2 (aCons (mVar 0) (aCons (mK .non) aNil)))) aNil)))
  (mRet (mVar 1))))))))
noncomputable def d__law_plain : Fn := mDef 2 b__law_plain
theorem F__law_plain {G : Gd} (M : Mg G) : FnD G 9 (He.ga G.K "_law_plain") 1 d__law_plain := by
  obtain ⟨fd, F⟩ := M.d__law_plain
  refine fnD_ofC (b := b__law_plain) F sc__law_plain (F.bindsN fun _ _ _ _ _ _ us hl => match us, hl with | [_], _ => rfl) fun A outer sh H E base g => ?_
  exact (ss_cons (s_setO sc__law_plain.nd (i := 1) rfl (by first | exact .inl rfl | exact .inr rfl) (se_lst (sa_cons (se_lam (k := 6) g (by decide) rfl (by rfl) M.g__law_met M.d__law_met (fun _ _ _ _ _ _ us hl => match us, hl with | [_], _ => rfl) sc__law_met rfl vis__law_met (fun cdv => G__law_met M g cdv _) M.t__law_plain rfl rfl (LamX.lamS_by (by kernel_rfl)) rfl (fun _ _ _ _ _ => rfl) (fun A outer sh H E f c gl => (se_call gl (F_has_ring M) (by decide) (by rfl) M.g_has_ring M.d_has_ring.kp (sa_cons (se_var (pv 0)) sa_nil)))) (sa_cons (se_lam (k := 5) g (by decide) rfl (by rfl) M.g__law_met M.d__law_met (fun _ _ _ _ _ _ us hl => match us, hl with | [_], _ => rfl) sc__law_met rfl vis__law_met (fun cdv => G__law_met M g cdv _) M.t__law_plain rfl rfl (LamX.lamS_by (by kernel_rfl)) rfl (fun _ _ _ _ _ => rfl) (fun A outer sh H E f c gl => (se_call gl (F_is_ring M) (by decide) (by rfl) M.g_is_ring M.d_is_ring.kp (sa_cons (se_var (pv 0)) (sa_cons se_non sa_nil))))) sa_nil))))
  (ss_cons (s_expr (se_mut PySem.F.slot_list_append PySem.F.type_list_append mt_append sem_append (se_var (pv 1)) (sa_cons (se_lam (k := 6) g (by decide) rfl (by rfl) M.g__law_met M.d__law_met (fun _ _ _ _ _ _ us hl => match us, hl with | [_], _ => rfl) sc__law_met rfl vis__law_met (fun cdv => G__law_met M g cdv _) M.t__law_plain rfl rfl (LamX.lamS_by (by kernel_rfl)) rfl (fun _ _ _ _ _ => rfl) (fun A outer sh H E f c gl => (se_call gl (F_is_sequence M) (by decide) (by rfl) M.g_is_sequence M.d_is_sequence.kp (sa_cons (se_var (pv 0)) (sa_cons se_non sa_nil))))) sa_nil)))
  (ss_cons (s_expr (se_mut PySem.F.slot_list_append PySem.F.type_list_append mt_append sem_append (se_var (pv 1)) (sa_cons (se_lam (k := 6) g (by decide) rfl (by rfl) M.g__law_met M.d__law_met (fun _ _ _ _ _ _ us hl => match us, hl with | [_], _ => rfl) sc__law_met rfl vis__law_met (fun cdv => G__law_met M g cdv _) M.t__law_plain rfl rfl (LamX.lamS_by (by kernel_rfl)) rfl (fun _ _ _ _ _ => rfl) (fun A outer sh H E f c gl => (se_call gl (F_ring_paper M) (by decide) (by rfl) M.g_ring_paper M.d_ring_paper.kp (sa_cons (se_var (pv 0)) sa_nil)))) sa_nil)))
  (ss_cons (s_expr (se_mut PySem.F.slot_list_append PySem.F.type_list_append mt_append sem_append (se_var (pv 1)) (sa_cons (se_lam (k := 6) g (by decide) rfl (by rfl) M.g__law_met M.d__law_met (fun _ _ _ _ _ _ us hl => match us, hl with | [_], _ => rfl) sc__law_met rfl vis__law_met (fun cdv => G__law_met M g cdv _) M.t__law_plain rfl rfl (LamX.lamS_by (by kernel_rfl)) rfl (fun _ _ _ _ _ => rfl) (fun A outer sh H E f c gl => (se_call gl (F_is_ring_paper M) (by decide) (by rfl) M.g_is_ring_paper M.d_is_ring_paper.kp (sa_cons (se_var (pv 0)) (sa_cons se_non sa_nil))))) sa_nil)))
  (ss_cons (s_expr (se_mut PySem.F.slot_list_append PySem.F.type_list_append mt_append sem_append (se_var (pv 1)) (sa_cons (se_lam (k := 4) g (by decide) rfl (by rfl) M.g__law_met M.d__law_met (fun _ _ _ _ _ _ us hl => match us, hl with | [_], _ => rfl) sc__law_met rfl vis__law_met (fun cdv => G__law_met M g cdv _) M.t__law_plain rfl rfl (LamX.lamS_by (by kernel_rfl)) rfl (fun _ _ _ _ _ => rfl) (fun A outer sh H E f c gl => (se_call gl (F_simple_people M) (by decide) (by rfl) M.g_simple_people M.d_simple_people.kp (sa_cons (se_var (pv 0)) sa_nil)))) sa_nil)))
  (ss_cons (s_expr (se_mut PySem.F.slot_list_append PySem.F.type_list_append mt_append sem_append (se_var (pv 1)) (sa_cons (se_lam (k := 6) g (by decide) rfl (by rfl) M.g__law_met M.d__law_met (fun _ _ _ _ _ _ us hl => match us, hl with | [_], _ => rfl) sc__law_met rfl vis__law_met (fun cdv => G__law_met M g cdv _) M.t__law_plain rfl rfl (LamX.lamS_by (by kernel_rfl)) rfl (fun _ _ _ _ _ => rfl) (fun A outer sh H E f c gl => (se_call gl (F_can_go_on M) (by decide) (by rfl) M.g_can_go_on M.d_can_go_on.kp (sa_cons (se_var (pv 0)) (sa_cons se_non sa_nil))))) sa_nil)))
  (ss_one (s_ret (se_var (pv 1))))))))))
noncomputable def b_require_row (base : Nat) : MS :=
  (mSeq (mDrop (mCall d_require_table 1 (aCons (mVar 0) aNil)))
  (mIfS (mNotT (mT (mCall d_is_row_of_all 2 (aCons (mVar 0) (aCons (mVar 1) aNil))))) (mRaise0 5) mSkip))
noncomputable def d_require_row : Fn := mDef 2 b_require_row
theorem F_require_row {G : Gd} (M : Mg G) : FnD G 5 (He.ga G.K "require_row") 2 d_require_row := by
  obtain ⟨fd, F⟩ := M.d_require_row
  refine fnD_of (b := b_require_row) F sc_require_row (F.bindsN fun _ _ _ _ _ _ us hl => match us, hl with | [_, _], _ => rfl) fun cdv A outer sh H E base g => ?_
  exact (ss_cons (s_expr (se_call g (F_require_table M) (by decide) (by rfl) M.g_require_table M.d_require_table.kp (sa_cons (se_var (pv 0)) sa_nil)))
  (ss_one (s_if (st_not (st_truth (se_call g (F_is_row_of_all M) (by decide) (by rfl) M.g_is_row_of_all M.d_is_row_of_all.kp (sa_cons (se_var (pv 0)) (sa_cons (se_var (pv 1)) sa_nil))))) (ss_one (s_raise0 g M.xe_5 rfl (by rfl))) ss_nil)))
noncomputable def b_gaps (base : Nat) : MS :=
  (mSeq (mDrop (mCall d_require_row 2 (aCons (mVar 0) (aCons (mVar 1) aNil))))
  (mRet (mBlt cTuple (aCons (mCall d_gaps_in 2 (aCons (mVar 0) (aCons (mVar 1) aNil))) aNil))))
noncomputable def d_gaps : Fn := mDef 2 b_gaps
theorem F_gaps {G : Gd} (M : Mg G) : FnD G 6 (He.ga G.K "gaps") 2 d_gaps := by
  obtain ⟨fd, F⟩ := M.d_gaps
  refine fnD_of (b := b_gaps) F sc_gaps (F.bindsN fun _ _ _ _ _ _ us hl => match us, hl with | [_, _], _ => rfl) fun cdv A outer sh H E base g => ?_
  exact (ss_cons (s_expr (se_call g (F_require_row M) (by decide) (by rfl) M.g_require_row M.d_require_row.kp (sa_cons (se_var (pv 0)) (sa_cons (se_var (pv 1)) sa_nil))))
  (ss_one (s_ret (se_callTy call_tuple_of sem_tuple (by rfl) M.b_tuple bo_tuple (sa_cons (se_call g (F_gaps_in M) (by decide) (by rfl) M.g_gaps_in M.d_gaps_in.kp (sa_cons (se_var (pv 0)) (sa_cons (se_var (pv 1)) sa_nil))) sa_nil)))))
noncomputable def b_patched (base : Nat) : MS :=
  (mSeq (mDrop (mCall d_require_row 2 (aCons (mVar 0) (aCons (mVar 1) aNil))))
  (mRet (mCall d_Table 2 (aCons (mFld 0 1 (mVar 0)) (aCons (mBlt cTuple (aCons (mBlt cSortK (aCons (mLst (aStar (mFld 0 0 (mVar 0)) (aStar (mCall d_gaps_in 2 (aCons (mVar 0) (aCons (mVar 1) aNil))) aNil))) aNil)) aNil)) aNil)))))
noncomputable def d_patched : Fn := mDef 2 b_patched
theorem F_patched {G : Gd} (M : Mg G) : FnD G 7 (He.ga G.K "patched") 2 d_patched := by
  obtain ⟨fd, F⟩ := M.d_patched
  refine fnD_of (b := b_patched) F sc_patched (F.bindsN fun _ _ _ _ _ _ us hl => match us, hl with | [_, _], _ => rfl) fun cdv A outer sh H E base g => ?_
  exact (ss_cons (s_expr (se_call g (F_require_row M) (by decide) (by rfl) M.g_require_row M.d_require_row.kp (sa_cons (se_var (pv 0)) (sa_cons (se_var (pv 1)) sa_nil))))
  (ss_one (s_ret (se_mk g (by decide) M.oc_0 M.mk_0 (I_Table M) rfl (by rfl) (sa_cons (se_fld g M.oc_0 M.sl_own_size (se_var (pv 0))) (sa_cons (se_callTy call_tuple_of sem_tuple (by rfl) M.b_tuple bo_tuple (sa_cons (se_callB (call_sort g.hu) sem_sortK (by rfl) M.b_sorted bo_sorted (sa_cons (se_lst (sa_star (se_fld g M.oc_0 M.sl_own_meetings (se_var (pv 0))) (sa_star (se_call g (F_gaps_in M) (by decide) (by rfl) M.g_gaps_in M.d_gaps_in.kp (sa_cons (se_var (pv 0)) (sa_cons (se_var (pv 1)) sa_nil))) sa_nil))) sa_nil)) sa_nil)) sa_nil))))))
noncomputable def b_later_lots (base : Nat) : MS :=
  (mSeq (mDrop (mCall d_require_row 2 (aCons (mVar 0) (aCons (mVar 1) aNil))))
  (mRet (mBlt cTuple (aCons (mComp (srL (mCall d_later_in 2 (aCons (mVar 0) (aCons (mVar 1) aNil)))) [2] (gN 2) tYesM (mCall d_lot_of 2 (aCons (mVar 2) (aCons (mFld 0 1 (mVar 0)) aNil)))) aNil))))
noncomputable def d_later_lots : Fn := mDef 3 b_later_lots
theorem F_later_lots {G : Gd} (M : Mg G) : FnD G 6 (He.ga G.K "later_lots") 2 d_later_lots := by
  obtain ⟨fd, F⟩ := M.d_later_lots
  refine fnD_of (b := b_later_lots) F sc_later_lots (F.bindsN fun _ _ _ _ _ _ us hl => match us, hl with | [_, _], _ => rfl) fun cdv A outer sh H E base g => ?_
  exact (ss_cons (s_expr (se_call g (F_require_row M) (by decide) (by rfl) M.g_require_row M.d_require_row.kp (sa_cons (se_var (pv 0)) (sa_cons (se_var (pv 1)) sa_nil))))
  (ss_one (s_ret (se_callTy call_tuple_of sem_tuple (by rfl) M.b_tuple bo_tuple (sa_cons (se_comp g.calm sc_later_lots.nd (si_list (se_call g (F_later_in M) (by decide) (by rfl) M.g_later_in M.d_later_in.kp (sa_cons (se_var (pv 0)) (sa_cons (se_var (pv 1)) sa_nil)))) (own := [("later", 2)]) (blk_ok (by kernel_rfl)) rfl (fun _ _ _ _ _ => (sg_name sc_later_lots.nd (i := 2) rfl (by first | exact .inl rfl | exact .inr rfl) (by decide))) (fun _ _ _ _ _ => sts_nil) (fun _ _ _ _ _ => (se_call (g.blk _ _ _ _ _) (F_lot_of M) (by decide) (by rfl) M.g_lot_of M.d_lot_of.kp (sa_cons (se_var (pv 2)) (sa_cons (se_fld (g.blk _ _ _ _ _) M.oc_0 M.sl_own_size (se_var (pv 0))) sa_nil))))) sa_nil)))))
noncomputable def b__law_rows (base : Nat) : MS :=
  (mSeq (mSetO base 2 (mLst (aCons (mLam 2 "_law_rows" mr__law_met (mCall d_gaps 2 (aCons (mVar 0) (aCons (mVar 1) aNil)))) (aCons (mLam 2 "_law_rows" mr__law_met (mCall d_patched 2 (aCons (mVar 0) (aCons (mVar 1) aNil)))) aNil))))
  (mSeq (mDrop (mMut fAppend (mVar 2) (aCons (mLam 2 "_law_rows" mr__law_met (mCall d_later_lots 2 (aCons (mVar 0) (aCons (mVar 1) aNil)))) aNil)))
  (mRet (mVar 2))))
noncomputable def d__law_rows : Fn := mDef 3 b__law_rows
theorem F__law_rows {G : Gd} (M : Mg G) : FnD G 10 (He.ga G.K "_law_rows") 2 d__law_rows := by
  obtain ⟨fd, F⟩ := M.d__law_rows
  refine fnD_ofC (b := b__law_rows) F sc__law_rows (F.bindsN fun _ _ _ _ _ _ us hl => match us, hl with | [_, _], _ => rfl) fun A outer sh H E base g => ?_
  exact (ss_cons (s_setO sc__law_rows.nd (i := 2) rfl (by first | exact .inl rfl | exact .inr rfl) (se_lst (sa_cons (se_lam (k := 6) g (by decide) rfl (by rfl) M.g__law_met M.d__law_met (fun _ _ _ _ _ _ us hl => match us, hl with | [_], _ => rfl) sc__law_met rfl vis__law_met (fun cdv => G__law_met M g cdv _) M.t__law_rows rfl rfl (LamX.lamS_by (by kernel_rfl)) rfl (fun _ _ _ _ _ => rfl) (fun A outer sh H E f c gl => (se_call gl (F_gaps M) (by decide) (by rfl) M.g_gaps M.d_gaps.kp (sa_cons (se_var (pv 0)) (sa_cons (se_var (pv 1)) sa_nil))))) (sa_cons (se_lam (k := 7) g (by decide) rfl (by rfl) M.g__law_met M.d__law_met (fun _ _ _ _ _ _ us hl => match us, hl with | [_], _ => rfl) sc__law_met rfl vis__law_met (fun cdv => G__law_met M g cdv _) M.t__law_rows rfl rfl (LamX.lamS_by (by kernel_rfl)) rfl (fun _ _ _ _ _ => rfl) (fun A outer sh H E f c gl => (se_call gl (F_patched M) (by decide) (by rfl) M.g_patched M.d_patched.kp (sa_cons (se_var (pv 0)) (sa_cons (se_var (pv 1)) sa_nil))))) sa_nil))))
  (ss_cons (s_expr (se_mut PySem.F.slot_list_append PySem.F.type_list_append mt_append sem_append (se_var (pv 2)) (sa_cons (se_lam (k := 6) g (by decide) rfl (by rfl) M.g__law_met M.d__law_met (fun _ _ _ _ _ _ us hl => match us, hl with | [_], _ => rfl) sc__law_met rfl vis__law_met (fun cdv => G__law_met M g cdv _) M.t__law_rows rfl rfl (LamX.lamS_by (by kernel_rfl)) rfl (fun _ _ _ _ _ => rfl) (fun A outer sh H E f c gl => (se_call gl (F_later_lots M) (by decide) (by rfl) M.g_later_lots M.d_later_lots.kp (sa_cons (se_var (pv 0)) (sa_cons (se_var (pv 1)) sa_nil))))) sa_nil)))
  (ss_one (s_ret (se_var (pv 2))))))
noncomputable def b__law_right (base : Nat) : MS :=
  (mSeq (mSetV base 1 (mCall d_Table 2 (aCons (mK (.int 4)) (aCons (mTup (aCons (mTup (aCons (mK (.int 0)) (aCons (mK (.int 1)) aNil))) (aCons (mTup (aCons (mK (.int 1)) (aCons (mK (.int 2)) aNil))) aNil))) aNil))))
  (mSeq (mSetV base 2 (mCall d__law_one_of 2 (aCons (mVar 0) (aCons (mLst (aCons (mK .non) (aCons (mK (.str "table")) (aCons (mTup (aCons (mK (.int 4)) (aCons (mTup aNil) aNil))) (aCons (mK (.int 7)) (aCons (mLst aNil) (aCons mDct0 (aCons (mTup (aCons (mTup (aCons (mK (.int 0)) (aCons (mK (.int 1)) aNil))) aNil)) aNil)))))))) aNil))))
  (mSeq (mSetV base 3 (mCall d__law_one_of 2 (aCons (mVar 0) (aCons (mLst (aCons (mK .non) (aCons (mTup aNil) (aCons (mTup (aCons (mK (.int 0)) (aCons (mK (.int 1)) (aCons (mK (.int 2)) aNil)))) (aCons (mLst (aCons (mK (.int 0)) (aCons (mK (.int 1)) (aCons (mK (.int 2)) (aCons (mK (.int 3)) aNil))))) (aCons (mTup (aCons (mK (.int 0)) (aCons (mK (.int 1)) (aCons (mK (.int 2)) (aCons (mK (.int 2)) aNil))))) (aCons (mTup (aCons (mK (.int 0)) (aCons (mK (.int 1)) (aCons (mK (.int 2)) (aCons (mK (.int 4)) aNil))))) (aCons (mTup (aCons (mK (.int 0)) (aCons (mK (.int 1)) (aCons (mK (.int 2)) (aCons (mK (.int 3)) (aCons (mK (.int 0)) aNil)))))) (aCons (mTup (aCons (mK (.int 0)) (aCons (mK (.int 1)) (aCons (mK (.int 2)) (aCons (mK (.str "3")) aNil))))) (aCons (mTup (aCons (mK (.int 0)) (aCons (mK (.bl true)) (aCons (mK (.int 2)) (aCons (mK (.int 3)) aNil))))) (aCons (mK (.int 7)) aNil))))))))))) aNil))))
  (mSeq (mPar base 6 7 false (mCall d__law_one_of 2 (aCons (mVar 0) (aCons (mLst (aCons (mK (.int 4)) (aCons (mUn dNeg (mK (.int 1))) (aCons (mK .non) (aCons (mK (.bl true)) (aCons (mK (.str "0")) (aCons (mTup (aCons (mK (.int 0)) aNil)) (aCons (mOp dPow (mK (.int 10)) (mK (.int 60))) aNil)))))))) aNil))) (mCall d__law_one_of 2 (aCons (mVar 0) (aCons (mLst (aCons (mK (.int 4)) (aCons (mUn dNeg (mK (.int 1))) (aCons (mK .non) (aCons (mK (.bl false)) (aCons (mK (.str "2")) (aCons (mTup (aCons (mK (.int 1)) aNil)) aNil))))))) aNil))))
  (mSeq (mSetV base 4 (mCall d__law_one_of 2 (aCons (mVar 0) (aCons (mLst (aCons (mK .non) (aCons (mLst (aCons (mK (.int 1)) aNil)) (aCons (mTup (aCons (mK (.int 1)) (aCons (mK (.int 0)) aNil))) (aCons (mTup (aCons (mK (.int 1)) (aCons (mK (.int 1)) aNil))) (aCons (mTup (aCons (mK (.int 4)) aNil)) (aCons (mTup (aCons (mUn dNeg (mK (.int 1))) aNil)) (aCons (mTup (aCons (mK (.bl true)) aNil)) (aCons (mK (.int 1)) (aCons (mTup (aCons (mK (.str "1")) aNil)) aNil)))))))))) aNil))))
  (mSeq (mIfS (mTB (mOp dNe (mOp dAdd (mOp dAdd (mCall d__law_plain 1 (aCons (mVar 2) aNil)) (mCall d__law_rows 2 (aCons (mVar 2) (aCons (mVar 3) aNil)))) (mCall d__law_screens 4 (aCons (mVar 2) (aCons (mVar 6) (aCons (mVar 7) (aCons (mVar 4) aNil)))))) (mOp dMul (mLst (aCons (mTup (aCons (mK (.str "table")) aNil)) aNil)) (mK (.int 13))))) (mRet (mK (.bl false))) mSkip)
  (mSeq (mIfS (mOrT (mTB (mOp dNe (mCall d__law_plain 1 (aCons (mVar 1) aNil)) (mOp dMul (mLst (aCons (mTup (aCons (mK (.str "fine")) aNil)) aNil)) (mK (.int 7))))) (mTB (mOp dNe (mCall d__law_rows 2 (aCons (mVar 1) (aCons (mVar 3) aNil))) (mOp dMul (mLst (aCons (mTup (aCons (mK (.str "order")) aNil)) aNil)) (mK (.int 3)))))) (mRet (mK (.bl false))) mSkip)
  (mSeq (mIfS (mOrT (mTB (mOp dNe (mBlt cRepr3 (aCons (mCall d__law_screens 4 (aCons (mVar 1) (aCons (mVar 6) (aCons (mVar 7) (aCons (mVar 4) aNil))))) aNil)) (mBlt cRepr3 (aCons (mOp dMul (mLst (aCons (mTup (aCons (mK (.str "number")) (aCons (mVar 6) aNil))) aNil)) (mK (.int 3))) aNil)))) (mTB (mOp dNe (mBlt cRepr3 (aCons (mCall d__law_screens 4 (aCons (mVar 1) (aCons (mK (.int 0)) (aCons (mVar 7) (aCons (mVar 4) aNil))))) aNil)) (mBlt cRepr3 (aCons (mOp dMul (mLst (aCons (mTup (aCons (mK (.str "number")) (aCons (mVar 7) aNil))) aNil)) (mK (.int 3))) aNil))))) (mRet (mK (.bl false))) mSkip)
  (mSeq (mIfS (mOrT (mTB (mOp dNe (mCall d__law_screens 4 (aCons (mVar 1) (aCons (mK (.int 0)) (aCons (mK (.int 2)) (aCons (mVar 4) aNil))))) (mOp dAdd (mLst (aCons (mTup (aCons (mK (.str "lot")) aNil)) aNil)) (mOp dMul (mLst (aCons (mTup (aCons (mK (.str "fine")) aNil)) aNil)) (mK (.int 2)))))) (mTB (mOp dNe (mCall d__law_screens 4 (aCons (mVar 1) (aCons (mK (.int 0)) (aCons (mK (.int 1)) (aCons (mVar 4) aNil))))) (mOp dAdd (mLst (aCons (mTup (aCons (mK (.str "lot")) aNil)) aNil)) (mOp dMul (mLst (aCons (mTup (aCons (mK (.str "operation")) aNil)) aNil)) (mK (.int 2))))))) (mRet (mK (.bl false))) mSkip)
  (mSeq (mSetV base 5 (mCall d__law_one_of 2 (aCons (mVar 0) (aCons (mLst (aCons (mTup (aCons (mK (.int 0)) (aCons (mK (.int 1)) aNil))) (aCons (mTup (aCons (mK (.int 1)) (aCons (mK (.int 0)) aNil))) (aCons (mTup (aCons (mK (.int 2)) (aCons (mK (.int 1)) aNil))) (aCons (mTup (aCons (mK (.int 3)) (aCons (mK (.int 3)) aNil))) (aCons (mTup (aCons (mK (.int 0)) (aCons (mK (.int 0)) aNil))) aNil)))))) aNil))))
  (mRet (mOp dEq (mCall d__law_screens 4 (aCons (mVar 1) (aCons (mOp dIx3 (mVar 5) (mK (.int 0))) (aCons (mOp dIx3 (mVar 5) (mK (.int 1))) (aCons (mTup aNil) aNil))))) (mOp dMul (mLst (aCons (mTup (aCons (mK (.str "operation")) aNil)) aNil)) (mK (.int 3)))))))))))))))
noncomputable def d__law_right : Fn := mDef 8 b__law_right
theorem F__law_right {G : Gd} (M : Mg G) : FnD G 11 (He.ga G.K "_law_right") 1 d__law_right := by
  obtain ⟨fd, F⟩ := M.d__law_right
  refine fnD_of (b := b__law_right) F sc__law_right (F.bindsN fun _ _ _ _ _ _ us hl => match us, hl with | [_], _ => rfl) fun cdv A outer sh H E base g => ?_
  exact (ss_cons (s_setV sc__law_right.nd (i := 1) rfl (by first | exact .inl rfl | exact .inr rfl) (se_mk g (by decide) M.oc_0 M.mk_0 (I_Table M) rfl (by rfl) (sa_cons se_int (sa_cons (se_tup (sa_cons (se_tup (sa_cons se_int (sa_cons se_int sa_nil))) (sa_cons (se_tup (sa_cons se_int (sa_cons se_int sa_nil))) sa_nil))) sa_nil))))
  (ss_cons (s_setV sc__law_right.nd (i := 2) rfl (by first | exact .inl rfl | exact .inr rfl) (se_call g (F__law_one_of M) (by decide) (by rfl) M.g__law_one_of M.d__law_one_of.kp (sa_cons (se_var (pv 0)) (sa_cons (se_lst (sa_cons se_non (sa_cons se_str (sa_cons (se_tup (sa_cons se_int (sa_cons (se_tup sa_nil) sa_nil))) (sa_cons se_int (sa_cons (se_lst sa_nil) (sa_cons se_dct0 (sa_cons (se_tup (sa_cons (se_tup (sa_cons se_int (sa_cons se_int sa_nil))) sa_nil)) sa_nil)))))))) sa_nil))))
  (ss_cons (s_setV sc__law_right.nd (i := 3) rfl (by first | exact .inl rfl | exact .inr rfl) (se_call g (F__law_one_of M) (by decide) (by rfl) M.g__law_one_of M.d__law_one_of.kp (sa_cons (se_var (pv 0)) (sa_cons (se_lst (sa_cons se_non (sa_cons (se_tup sa_nil) (sa_cons (se_tup (sa_cons se_int (sa_cons se_int (sa_cons se_int sa_nil)))) (sa_cons (se_lst (sa_cons se_int (sa_cons se_int (sa_cons se_int (sa_cons se_int sa_nil))))) (sa_cons (se_tup (sa_cons se_int (sa_cons se_int (sa_cons se_int (sa_cons se_int sa_nil))))) (sa_cons (se_tup (sa_cons se_int (sa_cons se_int (sa_cons se_int (sa_cons se_int sa_nil))))) (sa_cons (se_tup (sa_cons se_int (sa_cons se_int (sa_cons se_int (sa_cons se_int (sa_cons se_int sa_nil)))))) (sa_cons (se_tup (sa_cons se_int (sa_cons se_int (sa_cons se_int (sa_cons se_str sa_nil))))) (sa_cons (se_tup (sa_cons se_int (sa_cons se_bl (sa_cons se_int (sa_cons se_int sa_nil))))) (sa_cons se_int sa_nil))))))))))) sa_nil))))
  (ss_cons (s_par g.calm sc__law_right.nd (i := 6) (j := 7) rfl rfl (by decide) rfl rfl (se_call g (F__law_one_of M) (by decide) (by rfl) M.g__law_one_of M.d__law_one_of.kp (sa_cons (se_var (pv 0)) (sa_cons (se_lst (sa_cons se_int (sa_cons (se_un un_neg sem_neg se_int) (sa_cons se_non (sa_cons se_bl (sa_cons se_str (sa_cons (se_tup (sa_cons se_int sa_nil)) (sa_cons (se_bin op_pow sem_pow se_int se_int) sa_nil)))))))) sa_nil))) (se_call g (F__law_one_of M) (by decide) (by rfl) M.g__law_one_of M.d__law_one_of.kp (sa_cons (se_var (pv 0)) (sa_cons (se_lst (sa_cons se_int (sa_cons (se_un un_neg sem_neg se_int) (sa_cons se_non (sa_cons se_bl (sa_cons se_str (sa_cons (se_tup (sa_cons se_int sa_nil)) sa_nil))))))) sa_nil))) rfl (oj := false))
  (ss_cons (s_setV sc__law_right.nd (i := 4) rfl (by first | exact .inl rfl | exact .inr rfl) (se_call g (F__law_one_of M) (by decide) (by rfl) M.g__law_one_of M.d__law_one_of.kp (sa_cons (se_var (pv 0)) (sa_cons (se_lst (sa_cons se_non (sa_cons (se_lst (sa_cons se_int sa_nil)) (sa_cons (se_tup (sa_cons se_int (sa_cons se_int sa_nil))) (sa_cons (se_tup (sa_cons se_int (sa_cons se_int sa_nil))) (sa_cons (se_tup (sa_cons se_int sa_nil)) (sa_cons (se_tup (sa_cons (se_un un_neg sem_neg se_int) sa_nil)) (sa_cons (se_tup (sa_cons se_bl sa_nil)) (sa_cons se_int (sa_cons (se_tup (sa_cons se_str sa_nil)) sa_nil)))))))))) sa_nil))))
  (ss_cons (s_if (st_cmp (op_ne2 g.hu') sem_ne (se_bin op_add2 sem_add (se_bin op_add2 sem_add (se_call g (F__law_plain M) (by decide) (by rfl) M.g__law_plain M.d__law_plain.kp (sa_cons (se_var (pv 2)) sa_nil)) (se_call g (F__law_rows M) (by decide) (by rfl) M.g__law_rows M.d__law_rows.kp (sa_cons (se_var (pv 2)) (sa_cons (se_var (pv 3)) sa_nil)))) (se_call g (F__law_screens M) (by decide) (by rfl) M.g__law_screens M.d__law_screens.kp (sa_cons (se_var (pv 2)) (sa_cons (se_var (pv 6)) (sa_cons (se_var (pv 7)) (sa_cons (se_var (pv 4)) sa_nil)))))) (se_bin op_mul2 sem_mul (se_lst (sa_cons (se_tup (sa_cons se_str sa_nil)) sa_nil)) se_int) (nomark _)) (ss_one (s_ret se_bl)) ss_nil)
  (ss_cons (s_if (sw_or (st_cmp (op_ne2 g.hu') sem_ne (se_call g (F__law_plain M) (by decide) (by rfl) M.g__law_plain M.d__law_plain.kp (sa_cons (se_var (pv 1)) sa_nil)) (se_bin op_mul2 sem_mul (se_lst (sa_cons (se_tup (sa_cons se_str sa_nil)) sa_nil)) se_int) (nomark _)) (sw_or1 (st_cmp (op_ne2 g.hu') sem_ne (se_call g (F__law_rows M) (by decide) (by rfl) M.g__law_rows M.d__law_rows.kp (sa_cons (se_var (pv 1)) (sa_cons (se_var (pv 3)) sa_nil))) (se_bin op_mul2 sem_mul (se_lst (sa_cons (se_tup (sa_cons se_str sa_nil)) sa_nil)) se_int) (nomark _)))).st (ss_one (s_ret se_bl)) ss_nil)
  (ss_cons (s_if (sw_or (st_cmp (op_ne2 g.hu') sem_ne (se_callB (call_repr3 g.guards g.hu) sem_repr3 (by rfl) M.b_repr bo_repr (sa_cons (se_call g (F__law_screens M) (by decide) (by rfl) M.g__law_screens M.d__law_screens.kp (sa_cons (se_var (pv 1)) (sa_cons (se_var (pv 6)) (sa_cons (se_var (pv 7)) (sa_cons (se_var (pv 4)) sa_nil))))) sa_nil)) (se_callB (call_repr3 g.guards g.hu) sem_repr3 (by rfl) M.b_repr bo_repr (sa_cons (se_bin op_mul2 sem_mul (se_lst (sa_cons (se_tup (sa_cons se_str (sa_cons (se_var (pv 6)) sa_nil))) sa_nil)) se_int) sa_nil)) (nomark _)) (sw_or1 (st_cmp (op_ne2 g.hu') sem_ne (se_callB (call_repr3 g.guards g.hu) sem_repr3 (by rfl) M.b_repr bo_repr (sa_cons (se_call g (F__law_screens M) (by decide) (by rfl) M.g__law_screens M.d__law_screens.kp (sa_cons (se_var (pv 1)) (sa_cons se_int (sa_cons (se_var (pv 7)) (sa_cons (se_var (pv 4)) sa_nil))))) sa_nil)) (se_callB (call_repr3 g.guards g.hu) sem_repr3 (by rfl) M.b_repr bo_repr (sa_cons (se_bin op_mul2 sem_mul (se_lst (sa_cons (se_tup (sa_cons se_str (sa_cons (se_var (pv 7)) sa_nil))) sa_nil)) se_int) sa_nil)) (nomark _)))).st (ss_one (s_ret se_bl)) ss_nil)
  (ss_cons (s_if (sw_or (st_cmp (op_ne2 g.hu') sem_ne (se_call g (F__law_screens M) (by decide) (by rfl) M.g__law_screens M.d__law_screens.kp (sa_cons (se_var (pv 1)) (sa_cons se_int (sa_cons se_int (sa_cons (se_var (pv 4)) sa_nil))))) (se_bin op_add2 sem_add (se_lst (sa_cons (se_tup (sa_cons se_str sa_nil)) sa_nil)) (se_bin op_mul2 sem_mul (se_lst (sa_cons (se_tup (sa_cons se_str sa_nil)) sa_nil)) se_int)) (nomark _)) (sw_or1 (st_cmp (op_ne2 g.hu') sem_ne (se_call g (F__law_screens M) (by decide) (by rfl) M.g__law_screens M.d__law_screens.kp (sa_cons (se_var (pv 1)) (sa_cons se_int (sa_cons se_int (sa_cons (se_var (pv 4)) sa_nil))))) (se_bin op_add2 sem_add (se_lst (sa_cons (se_tup (sa_cons se_str sa_nil)) sa_nil)) (se_bin op_mul2 sem_mul (se_lst (sa_cons (se_tup (sa_cons se_str sa_nil)) sa_nil)) se_int)) (nomark _)))).st (ss_one (s_ret se_bl)) ss_nil)
  (ss_cons (s_setV sc__law_right.nd (i := 5) rfl (by first | exact .inl rfl | exact .inr rfl) (se_call g (F__law_one_of M) (by decide) (by rfl) M.g__law_one_of M.d__law_one_of.kp (sa_cons (se_var (pv 0)) (sa_cons (se_lst (sa_cons (se_tup (sa_cons se_int (sa_cons se_int sa_nil))) (sa_cons (se_tup (sa_cons se_int (sa_cons se_int sa_nil))) (sa_cons (se_tup (sa_cons se_int (sa_cons se_int sa_nil))) (sa_cons (se_tup (sa_cons se_int (sa_cons se_int sa_nil))) (sa_cons (se_tup (sa_cons se_int (sa_cons se_int sa_nil))) sa_nil)))))) sa_nil))))
  (ss_one (s_ret (se_cmp (op_eq2 g.hu') sem_eq (se_call g (F__law_screens M) (by decide) (by rfl) M.g__law_screens M.d__law_screens.kp (sa_cons (se_var (pv 1)) (sa_cons (se_ix (ix3 g.hu) sem_ix3 (se_var (pv 5)) se_int (fun _ _ => rfl)) (sa_cons (se_ix (ix3 g.hu) sem_ix3 (se_var (pv 5)) se_int (fun _ _ => rfl)) (sa_cons (se_tup sa_nil) sa_nil))))) (se_bin op_mul2 sem_mul (se_lst (sa_cons (se_tup (sa_cons se_str sa_nil)) sa_nil)) se_int) (nomark _))))))))))))))
noncomputable def b_law (base : Nat) : MS :=
  (mSeq (mFor (srR1 (aCons (mBlt cMax2 (aCons (mK (.int 1)) (aCons (mBlt cMin2 (aCons (mK (.int 2)) (aCons (mBlt cLen (aCons (mVar 0) aNil)) aNil))) aNil))) aNil)) (gN 1) (mSeq (mSetO base 6 (mCall d__law_bag 2 (aCons (mVar 0) (aCons (mVar 1) aNil))))
  (mIfS (mTB (mOp dNe (mComp (srR1 (aCons (mK (.int 5)) aNil)) [10] (gN 10) (mNotT (mT (mCall d__law_right 1 (aCons (mVar 6) aNil)))) (mK (.int 1))) (mLst aNil))) (mRet (mK (.bl false))) mSkip)))
  (mSeq (mAsg (gT (gsC (gN 7) (gsC (gN 8) gs0))) (mTup (aCons (mCall d_Table 2 (aCons (mK (.int 4)) (aCons (mTup (aCons (mTup (aCons (mK (.int 0)) (aCons (mK (.int 1)) aNil))) (aCons (mTup (aCons (mK (.int 1)) (aCons (mK (.int 2)) aNil))) aNil))) aNil))) (aCons (mCall d_Table 2 (aCons (mK (.int 11)) (aCons (mTup (aCons (mTup (aCons (mK (.int 0)) (aCons (mK (.int 1)) aNil))) (aCons (mTup (aCons (mK (.int 1)) (aCons (mK (.int 2)) aNil))) aNil))) aNil))) aNil))))
  (mSeq (mSetV base 2 (mLst (aCons (mCall d__law_screens 4 (aCons (mVar 7) (aCons (mK (.int 0)) (aCons (mK (.int 2)) (aCons (mTup (aCons (mK (.int 0)) (aCons (mK (.int 1)) aNil))) aNil))))) (aCons (mCall d__law_screens 4 (aCons (mVar 7) (aCons (mK (.int 0)) (aCons (mK (.int 2)) (aCons (mTup (aCons (mK (.int 1)) (aCons (mK (.int 2)) aNil))) aNil))))) (aCons (mCall d__law_screens 4 (aCons (mVar 7) (aCons (mK (.int 0)) (aCons (mK (.int 2)) (aCons (mTup aNil) aNil))))) (aCons (mCall d__law_screens 4 (aCons (mVar 8) (aCons (mK (.int 0)) (aCons (mK (.int 2)) (aCons (mTup (aCons (mK (.int 1)) aNil)) aNil))))) (aCons (mCall d__law_screens 4 (aCons (mVar 8) (aCons (mK (.int 0)) (aCons (mK (.int 1)) (aCons (mTup (aCons (mK (.int 3)) aNil)) aNil))))) aNil)))))))
  (mSeq (mSetV base 3 (mLst (aCons (mOp dAdd (mLst (aCons (mTup (aCons (mK (.str "operation")) aNil)) aNil)) (mOp dMul (mLst (aCons (mTup (aCons (mK (.str "fine")) aNil)) aNil)) (mK (.int 2)))) (aCons (mOp dAdd (mLst (aCons (mTup (aCons (mK (.str "operation")) aNil)) aNil)) (mOp dMul (mLst (aCons (mTup (aCons (mK (.str "fine")) aNil)) aNil)) (mK (.int 2)))) (aCons (mOp dMul (mLst (aCons (mTup (aCons (mK (.str "fine")) aNil)) aNil)) (mK (.int 3))) (aCons (mLst (aCons (mTup (aCons (mK (.str "fine")) aNil)) (aCons (mTup (aCons (mK (.str "many")) (aCons (mK (.int 10)) aNil))) (aCons (mTup (aCons (mK (.str "fine")) aNil)) aNil)))) (aCons (mOp dMul (mLst (aCons (mTup (aCons (mK (.str "operation")) aNil)) aNil)) (mK (.int 3))) aNil)))))))
  (mSeq (mSetV base 4 (mLst (aCons (mK .non) (aCons (mK (.int 0)) (aCons (mTup aNil) (aCons (mLst aNil) (aCons mDct0 (aCons (mK (.str "ring")) (aCons (mTup (aCons (mK (.str "ring")) aNil)) (aCons (mTup (aCons (mK (.str "ring")) (aCons (mTup aNil) aNil))) (aCons (mTup (aCons (mK (.str "sequence")) (aCons (mTup aNil) aNil))) (aCons (mTup (aCons (mK (.str "sequence")) (aCons (mK .non) aNil))) (aCons (mTup (aCons (mK .non) (aCons (mTup (aCons (mK (.int 0)) (aCons (mK (.int 1)) (aCons (mK (.int 2)) (aCons (mK (.int 3)) aNil))))) aNil))) (aCons (mTup (aCons (mK (.str "ring")) (aCons (mTup (aCons (mK (.int 0)) (aCons (mK (.int 1)) (aCons (mK (.int 2)) (aCons (mK (.int 9)) aNil))))) aNil))) (aCons (mTup (aCons (mK (.str "sequence")) (aCons (mTup (aCons (mK (.int 0)) (aCons (mK (.int 1)) (aCons (mK (.int 2)) (aCons (mK (.str "3")) aNil))))) aNil))) aNil)))))))))))))))
  (mSeq (mSetV base 5 (mComp (srL (mVar 4)) [9] (gN 9) (mOrT (mTB (mOp dNotB (mCall d_is_ring_paper 2 (aCons (mVar 7) (aCons (mVar 9) aNil))) (mK (.bl false)))) (mOrT (mTB (mOp dNotB (mCall d_is_ring 2 (aCons (mVar 7) (aCons (mVar 9) aNil))) (mK (.bl false)))) (mTB (mOp dNotB (mCall d_is_sequence 2 (aCons (mVar 7) (aCons (mVar 9) aNil))) (mK (.bl false)))))) (mVar 9)))
  (mRet (mOp dEq (mBlt cRepr3 (aCons (mOp dAdd (mVar 2) (mLst (aCons (mVar 5) (aCons (mK (.int 10)) aNil)))) aNil)) (mBlt cRepr3 (aCons (mOp dAdd (mVar 3) (mLst (aCons (mLst aNil) (aCons (mK (.int 10)) aNil)))) aNil))))))))))
noncomputable def d_law : Fn := mDef 11 b_law
theorem F_law {G : Gd} (M : Mg G) : FnD G 12 (He.ga G.K "law") 1 d_law := by
  obtain ⟨fd, F⟩ := M.d_law
  refine fnD_of (b := b_law) F sc_law (F.bindsN fun _ _ _ _ _ _ us hl => match us, hl with | [_], _ => rfl) fun cdv A outer sh H E base g => ?_
  exact (ss_cons (s_for (passes_of rfl) g.calm (si_range1 (by rfl) M.b_range (sa_cons (se_callB (call_max2 g.calm) sem_max2 (by rfl) M.b_max bo_max (sa_cons se_int (sa_cons (se_callB (call_min2 g.calm) sem_min2 (by rfl) M.b_min bo_min (sa_cons se_int (sa_cons (se_callB call_len sem_len (by rfl) M.b_len bo_len (sa_cons (se_var (pv 0)) sa_nil)) sa_nil))) sa_nil))) sa_nil)) (sg_name sc_law.nd (i := 1) rfl (by first | exact .inl rfl | exact .inr rfl) (by decide)) (ss_cons (s_setO sc_law.nd (i := 6) rfl (by first | exact .inl rfl | exact .inr rfl) (se_call g (F__law_bag M) (by decide) (by rfl) M.g__law_bag M.d__law_bag.kp (sa_cons (se_var (pv 0)) (sa_cons (se_var (pv 1)) sa_nil))))
  (ss_one (s_if (st_cmp (op_ne2 g.hu') sem_ne (se_comp g.calm sc_law.nd (si_range1 (by rfl) M.b_range (sa_cons se_int sa_nil)) (own := [("turn", 10)]) (blk_ok (by kernel_rfl)) rfl (fun _ _ _ _ _ => (sg_name sc_law.nd (i := 10) rfl (by first | exact .inl rfl | exact .inr rfl) (by decide))) (fun _ _ _ _ _ => (sts_one (st_not (st_truth (se_call (g.blk _ _ _ _ _) (F__law_right M) (by decide) (by rfl) M.g__law_right M.d__law_right.kp (sa_cons (se_var (pv 6)) sa_nil)))))) (fun _ _ _ _ _ => se_int)) (se_lst sa_nil) (nomark _)) (ss_one (s_ret se_bl)) ss_nil))) (vs := [1]))
  (ss_cons (s_asgT (se_tup (sa_cons (se_mk g (by decide) M.oc_0 M.mk_0 (I_Table M) rfl (by rfl) (sa_cons se_int (sa_cons (se_tup (sa_cons (se_tup (sa_cons se_int (sa_cons se_int sa_nil))) (sa_cons (se_tup (sa_cons se_int (sa_cons se_int sa_nil))) sa_nil))) sa_nil))) (sa_cons (se_mk g (by decide) M.oc_0 M.mk_0 (I_Table M) rfl (by rfl) (sa_cons se_int (sa_cons (se_tup (sa_cons (se_tup (sa_cons se_int (sa_cons se_int sa_nil))) (sa_cons (se_tup (sa_cons se_int (sa_cons se_int sa_nil))) sa_nil))) sa_nil))) sa_nil))) (sg_tup g.calm (sgs_cons (sg_name sc_law.nd (i := 7) rfl (by first | exact .inl rfl | exact .inr rfl) (by decide)) (sgs_cons (sg_name sc_law.nd (i := 8) rfl (by first | exact .inl rfl | exact .inr rfl) (by decide)) sgs_nil)) rfl rfl (gsC_len (gsC_len gs0_len))) (vs := [7, 8]))
  (ss_cons (s_setV sc_law.nd (i := 2) rfl (by first | exact .inl rfl | exact .inr rfl) (se_lst (sa_cons (se_call g (F__law_screens M) (by decide) (by rfl) M.g__law_screens M.d__law_screens.kp (sa_cons (se_var (pv 7)) (sa_cons se_int (sa_cons se_int (sa_cons (se_tup (sa_cons se_int (sa_cons se_int sa_nil))) sa_nil))))) (sa_cons (se_call g (F__law_screens M) (by decide) (by rfl) M.g__law_screens M.d__law_screens.kp (sa_cons (se_var (pv 7)) (sa_cons se_int (sa_cons se_int (sa_cons (se_tup (sa_cons se_int (sa_cons se_int sa_nil))) sa_nil))))) (sa_cons (se_call g (F__law_screens M) (by decide) (by rfl) M.g__law_screens M.d__law_screens.kp (sa_cons (se_var (pv 7)) (sa_cons se_int (sa_cons se_int (sa_cons (se_tup sa_nil) sa_nil))))) (sa_cons (se_call g (F__law_screens M) (by decide) (by rfl) M.g__law_screens M.d__law_screens.kp (sa_cons (se_var (pv 8)) (sa_cons se_int (sa_cons se_int (sa_cons (se_tup (sa_cons se_int sa_nil)) sa_nil))))) (sa_cons (se_call g (F__law_screens M) (by decide) (by rfl) M.g__law_screens M.d__law_screens.kp (sa_cons (se_var (pv 8)) (sa_cons se_int (sa_cons se_int (sa_cons (se_tup (sa_cons se_int sa_nil)) sa_nil))))) sa_nil)))))))
  (ss_cons (s_setV sc_law.nd (i := 3) rfl (by first | exact .inl rfl | exact .inr rfl) (se_lst (sa_cons (se_bin op_add2 sem_add (se_lst (sa_cons (se_tup (sa_cons se_str sa_nil)) sa_nil)) (se_bin op_mul2 sem_mul (se_lst (sa_cons (se_tup (sa_cons se_str sa_nil)) sa_nil)) se_int)) (sa_cons (se_bin op_add2 sem_add (se_lst (sa_cons (se_tup (sa_cons se_str sa_nil)) sa_nil)) (se_bin op_mul2 sem_mul (se_lst (sa_cons (se_tup (sa_cons se_str sa_nil)) sa_nil)) se_int)) (sa_cons (se_bin op_mul2 sem_mul (se_lst (sa_cons (se_tup (sa_cons se_str sa_nil)) sa_nil)) se_int) (sa_cons (se_lst (sa_cons (se_tup (sa_cons se_str sa_nil)) (sa_cons (se_tup (sa_cons se_str (sa_cons se_int sa_nil))) (sa_cons (se_tup (sa_cons se_str sa_nil)) sa_nil)))) (sa_cons (se_bin op_mul2 sem_mul (se_lst (sa_cons (se_tup (sa_cons se_str sa_nil)) sa_nil)) se_int) sa_nil)))))))
  (ss_cons (s_setV sc_law.nd (i := 4) rfl (by first | exact .inl rfl | exact .inr rfl) (se_lst (sa_cons se_non (sa_cons se_int (sa_cons (se_tup sa_nil) (sa_cons (se_lst sa_nil) (sa_cons se_dct0 (sa_cons se_str (sa_cons (se_tup (sa_cons se_str sa_nil)) (sa_cons (se_tup (sa_cons se_str (sa_cons (se_tup sa_nil) sa_nil))) (sa_cons (se_tup (sa_cons se_str (sa_cons (se_tup sa_nil) sa_nil))) (sa_cons (se_tup (sa_cons se_str (sa_cons se_non sa_nil))) (sa_cons (se_tup (sa_cons se_non (sa_cons (se_tup (sa_cons se_int (sa_cons se_int (sa_cons se_int (sa_cons se_int sa_nil))))) sa_nil))) (sa_cons (se_tup (sa_cons se_str (sa_cons (se_tup (sa_cons se_int (sa_cons se_int (sa_cons se_int (sa_cons se_int sa_nil))))) sa_nil))) (sa_cons (se_tup (sa_cons se_str (sa_cons (se_tup (sa_cons se_int (sa_cons se_int (sa_cons se_int (sa_cons se_str sa_nil))))) sa_nil))) sa_nil)))))))))))))))
  (ss_cons (s_lcV g.calm sc_law.nd (i := 5) rfl rfl rfl (si_list (se_var (pv 4))) (own := [("value", 9)]) (blk_ok (by kernel_rfl)) rfl (fun _ _ _ _ _ => (sg_name sc_law.nd (i := 9) rfl (by first | exact .inl rfl | exact .inr rfl) (by decide))) (fun _ _ _ _ _ => (sts_one (sw_or (st_cmp op_notBl sem_notB (se_call (g.blk _ _ _ _ _) (F_is_ring_paper M) (by decide) (by rfl) M.g_is_ring_paper M.d_is_ring_paper.kp (sa_cons (se_var (pv 7)) (sa_cons (se_var (pv 9)) sa_nil))) se_bl (nomark _)) (sw_or (st_cmp op_notBl sem_notB (se_call (g.blk _ _ _ _ _) (F_is_ring M) (by decide) (by rfl) M.g_is_ring M.d_is_ring.kp (sa_cons (se_var (pv 7)) (sa_cons (se_var (pv 9)) sa_nil))) se_bl (nomark _)) (sw_or1 (st_cmp op_notBl sem_notB (se_call (g.blk _ _ _ _ _) (F_is_sequence M) (by decide) (by rfl) M.g_is_sequence M.d_is_sequence.kp (sa_cons (se_var (pv 7)) (sa_cons (se_var (pv 9)) sa_nil))) se_bl (nomark _))))).st)) (fun _ _ _ _ _ => (se_var (pv 9))))
  (ss_one (s_ret (se_cmp (op_eq2 g.hu') sem_eq (se_callB (call_repr3 g.guards g.hu) sem_repr3 (by rfl) M.b_repr bo_repr (sa_cons (se_bin op_add2 sem_add (se_var (pv 2)) (se_lst (sa_cons (se_var (pv 5)) (sa_cons (se_gint (by rfl) M.c_MOST_SCREENED) sa_nil)))) sa_nil)) (se_callB (call_repr3 g.guards g.hu) sem_repr3 (by rfl) M.b_repr bo_repr (sa_cons (se_bin op_add2 sem_add (se_var (pv 3)) (se_lst (sa_cons (se_lst sa_nil) (sa_cons se_int sa_nil)))) sa_nil)) (nomark _))))))))))
end Lk15

set_option maxHeartbeats 4000000
namespace Dv
open PySem PySem.Spec PyProof.Rows L2
set_option autoImplicit false
/-! ### the busiest hour -/
theorem first_max (f : Nat → Nat) : ∀ n : Nat, ∃ b, b < n + 1 ∧ (∀ j, j < n + 1 → f j ≤ f b) ∧ ∀ j, j < b → f j < f b
  | 0 => ⟨0, by omega, fun j hj => by have : j = 0 := by omega
                                      subst this; exact Nat.le_refl _, fun j hj => by omega⟩
  | n + 1 => by
    obtain ⟨b, h1, h2, h3⟩ := first_max f n
    by_cases c : f b < f (n + 1)
    · refine ⟨n + 1, by omega, fun j hj => ?_, fun j hj => ?_⟩
      · by_cases e : j = n + 1
        · subst e; exact Nat.le_refl _
        · have := h2 j (by omega); omega
      · have := h2 j (by omega); omega
    · refine ⟨b, by omega, fun j hj => ?_, h3⟩
      by_cases e : j = n + 1
      · subst e; omega
      · exact h2 j (by omega)
theorem busy {vs : List Stay} {most : Int} {n : Nat} (hs : Stays most vs) (hne : vs ≠ []) (hn : most ≤ n) : ∃ b : Nat, b < n + 1 ∧ (∀ j : Nat, j < n + 1 → (crowdZ vs (j : Int)).length ≤ (crowdZ vs (b : Int)).length) ∧ (∀ j : Nat, j < b → (crowdZ vs (j : Int)).length < (crowdZ vs (b : Int)).length) ∧ (b : Int) ∈ comings vs ∧ 0 < (crowdZ vs (b : Int)).length := by
  obtain ⟨b, h1, h2, h3⟩ := first_max (fun j => (crowdZ vs (j : Int)).length) n
  refine ⟨b, h1, h2, h3, ?_⟩
  have pos : 0 < (crowdZ vs (b : Int)).length := by
    obtain ⟨v, hv⟩ := List.exists_mem_of_ne_nil _ hne
    obtain ⟨k, hk⟩ := List.getElem?_of_mem hv
    obtain ⟨s1, s2, s3, s4, s5⟩ := stay_at hs hk
    have a := List.length_pos_of_mem (mem_crowd.mpr s5)
    have e : v.1 = ((v.1.toNat : Nat) : Int) := by omega
    have := h2 v.1.toNat (by omega)
    rw [← e] at this
    omega
  refine ⟨?_, pos⟩
  rcases Decidable.em ((b : Int) ∈ comings vs) with c | c
  · exact c
  · exfalso
    have hno : ∀ k, At' vs (b : Int) k → 0 < b ∧ At' vs ((b : Int) - 1) k := by
      rintro k ⟨v, hk, v1, v2⟩
      obtain ⟨s1, s2, s3, s4, s5⟩ := stay_at hs hk
      have hb : v.1 ≠ b := fun e => c (e ▸ s4)
      refine ⟨by omega, v, hk, by omega, by omega⟩
    obtain ⟨p, hp⟩ := List.exists_mem_of_length_pos pos
    obtain ⟨k, rfl, ha⟩ := crowd_nat hp
    have hb := (hno k ha).1
    have e : ((b - 1 : Nat) : Int) = (b : Int) - 1 := by omega
    have a := (asc_sub_len (crd_pw (h := (b : Int)) (vs := vs) (i := 0)) (crd_pw (h := (b : Int) - 1) (vs := vs) (i := 0)) (crowd_sub fun k hk => (hno k hk).2)).1
    have := h3 (b - 1) (by omega)
    rw [e] at this
    unfold crowdZ at this a
    omega
/-! ### hours in common -/
/-- the stay of a person -/
def stay (vs : List Stay) (p : Int) : Stay := (vs[p.toNat]?).getD (0, 0)
/-- people of a lot, each with a stay -/
def Inn (vs : List Stay) (lot : List Int) : Prop := ∀ p ∈ lot, 0 ≤ p ∧ p < vs.length
theorem stay_get {vs : List Stay} {lot : List Int} {p : Int} (h : Inn vs lot) (hp : p ∈ lot) : vs[p.toNat]? = some (stay vs p) := by
  have := h p hp
  unfold stay
  rw [List.getElem?_eq_getElem (by omega)] <;> rfl
theorem in_crowd {vs : List Stay} {lot : List Int} {p h : Int} (hi : Inn vs lot) (hp : p ∈ lot) : p ∈ crowdZ vs h ↔ (stay vs p).1 ≤ h ∧ h ≤ (stay vs p).2 := by
  have hb := hi p hp
  have hg := stay_get hi hp
  rw [mem_crd]
  constructor
  · rintro ⟨k, v, h1, h2, h3⟩
    have : k = p.toNat := by omega
    subst this
    rw [hg] at h1; cases h1
    exact h3
  · intro h
    exact ⟨p.toNat, _, hg, by omega, h⟩
/-- the latest coming, the earliest leaving -/
structure Span (vs : List Stay) (lot : List Int) (F L : Int) : Prop where
  f1 : ∃ p ∈ lot, (stay vs p).1 = F
  f2 : ∀ p ∈ lot, (stay vs p).1 ≤ F
  l1 : ∃ p ∈ lot, (stay vs p).2 = L
  l2 : ∀ p ∈ lot, L ≤ (stay vs p).2
theorem span_ex {vs : List Stay} : ∀ {lot : List Int}, lot ≠ [] → ∃ F L, Span vs lot F L ∧ ((lot.map fun p => (stay vs p).1).max? = some F) ∧ ((lot.map fun p => (stay vs p).2).min? = some L) := by
  intro lot hne
  have h1 : ∃ F, (lot.map fun p => (stay vs p).1).max? = some F := by
    cases h : (lot.map fun p => (stay vs p).1).max? with
    | none => rw [List.max?_eq_none_iff] at h; simp at h; exact absurd h hne
    | some F => exact ⟨F, rfl⟩
  have h2 : ∃ F, (lot.map fun p => (stay vs p).2).min? = some F := by
    cases h : (lot.map fun p => (stay vs p).2).min? with
    | none => rw [List.min?_eq_none_iff] at h; simp at h; exact absurd h hne
    | some F => exact ⟨F, rfl⟩
  obtain ⟨F, hF⟩ := h1
  obtain ⟨L, hL⟩ := h2
  have a := List.max?_eq_some_iff.mp hF
  have b := List.min?_eq_some_iff.mp hL
  simp only [List.mem_map, forall_exists_index, and_imp, forall_apply_eq_imp_iff₂] at a b
  exact ⟨F, L, ⟨a.1, a.2, b.1, b.2⟩, hF, hL⟩
theorem span_in {vs : List Stay} {lot : List Int} {F L h : Int} (hi : Inn vs lot) (s : Span vs lot F L) : (∀ p ∈ lot, p ∈ crowdZ vs h) ↔ F ≤ h ∧ h ≤ L := by
  constructor
  · intro ha
    obtain ⟨p, hp, rfl⟩ := s.f1
    obtain ⟨q, hq, rfl⟩ := s.l1
    exact ⟨((in_crowd hi hp).mp (ha p hp)).1, ((in_crowd hi hq).mp (ha q hq)).2⟩
  · rintro ⟨a, b⟩ p hp
    have := s.f2 p hp
    have := s.l2 p hp
    exact (in_crowd hi hp).mpr ⟨by omega, by omega⟩
theorem hours_eq {n : Nat} {F L : Int} (h0 : 0 ≤ F) (h1 : L < n) : (intR 0 n).filter (fun h => decide (F ≤ h ∧ h ≤ L)) = intR F (L + 1 - F).toNat := by
  refine asc_eq (intR_pw.filter _) intR_pw fun k => ?_
  rw [List.mem_filter, mem_intR, mem_intR, decide_eq_true_eq]
  omega
/-- the first of a lot of whom something holds -/
theorem first_of {p : Int → Bool} : ∀ {lot : List Int}, lot.Pairwise (· < ·) → (∃ x ∈ lot, p x = true) → ∃ q t, lot.filter p = q :: t ∧ q ∈ lot ∧ p q = true ∧ ∀ x ∈ lot, p x = true → q ≤ x
  | [], _, ⟨x, hx, _⟩ => by simp at hx
  | y :: lot, hp, ⟨x, hx, hpx⟩ => by
    have q := List.pairwise_cons.mp hp
    by_cases c : p y = true
    · exact ⟨y, lot.filter p, by simp [c], by simp, c, fun z hz _ => by
        rcases List.mem_cons.mp hz with e | hz
        · omega
        · have := q.1 z hz; omega⟩
    · have hx' : x ∈ lot := by
        rcases List.mem_cons.mp hx with e | hx
        · rw [e] at hpx; exact absurd hpx c
        · exact hx
      obtain ⟨r, t, h1, h2, h3, h4⟩ := first_of q.2 ⟨x, hx', hpx⟩
      refine ⟨r, t, by simp [c, h1], List.mem_cons_of_mem _ h2, h3, fun z hz hpz => ?_⟩
      rcases List.mem_cons.mp hz with e | hz
      · rw [e] at hpz; exact absurd hpz c
      · exact h4 z hz hpz
theorem all_meet {vs : List Stay} {lot : List Int} {F L : Int} (s : Span vs lot F L) : (∀ p ∈ lot, ∀ q ∈ lot, (stay vs p).1 ≤ (stay vs q).2 ∧ (stay vs q).1 ≤ (stay vs p).2) ↔ F ≤ L := by
  constructor
  · intro h
    obtain ⟨p, hp, rfl⟩ := s.f1
    obtain ⟨q, hq, rfl⟩ := s.l1
    exact (h p hp q hq).1
  · intro h p hp q hq
    have := s.f2 p hp
    have := s.l2 q hq
    have := s.f2 q hq
    have := s.l2 p hp
    omega
end Dv

set_option maxHeartbeats 4000000
namespace Lk15
open PySem PySem.Spec PyProof.Rows L2 Dv
set_option autoImplicit false
/-- a jar of draws at the cell n, at most B draws on -/
def Jar (n B : Nat) (S : Store) : Prop := ∃ f g b c, S[n]? = some (some (.lst f [.int g, .int b, .int c])) ∧ 0 ≤ b ∧ b < 2 ^ 80 ∧ 0 ≤ c ∧ c ≤ (B : Int)
/-- nothing but the cell n was changed -/
def At (n : Nat) (S S' : Store) : Prop := ∃ x, S' = S.set n (some x)
theorem Jar.lt {n B : Nat} {S : Store} (h : Jar n B S) : n < S.length := let ⟨_, _, _, _, h, _⟩ := h; get_lt h
theorem set_self {n : Nat} {S : Store} {x : D} (h : S[n]? = some (some x)) : S.set n (some x) = S := by
  refine List.ext_getElem? fun i => ?_
  rw [List.getElem?_set]
  split
  · rename_i e; subst e; rw [if_pos (get_lt h)]; exact h.symm
  · rfl
theorem At.refl {n B : Nat} {S : Store} (h : Jar n B S) : At n S S := let ⟨_, _, _, _, h, _⟩ := h; ⟨_, (set_self h).symm⟩
theorem At.trans {n : Nat} {S S1 S2 : Store} (a : At n S S1) (b : At n S1 S2) : At n S S2 := by
  obtain ⟨x, rfl⟩ := a
  obtain ⟨y, rfl⟩ := b
  exact ⟨y, by rw [List.set_set]⟩
theorem At.len {n : Nat} {S S1 : Store} (a : At n S S1) : S1.length = S.length := by obtain ⟨x, rfl⟩ := a; simp
theorem At.app {n : Nat} {S S' : Store} {T : Store} (hn : n < S.length) (h : At n (S ++ T) S') : ∃ x, S' = S.set n (some x) ++ T := by
  obtain ⟨x, rfl⟩ := h
  exact ⟨x, app_set hn⟩
theorem Jar.mono {n B B' : Nat} {S : Store} (h : Jar n B S) (hb : B ≤ B') : Jar n B' S := let ⟨f, g, b, c, h, h1, h2, h3, h4⟩ := h; ⟨f, g, b, c, h, h1, h2, h3, by omega⟩
theorem Jar.app {n B : Nat} {S T : Store} (h : Jar n B S) : Jar n B (S ++ T) := let ⟨f, g, b, c, h, i⟩ := h; ⟨f, g, b, c, app_get h, i⟩
theorem Jar.unapp {n B : Nat} {S T : Store} (hn : n < S.length) (h : Jar n B (S ++ T)) : Jar n B S := by
  obtain ⟨f, g, b, c, h1, h2⟩ := h
  refine ⟨f, g, b, c, ?_, h2⟩
  rwa [List.getElem?_append_left hn] at h1
theorem mul_ok {S : Store} {i j : Int} {a b : Nat} (hi : i.natAbs < 2 ^ a) (hj : j.natAbs < 2 ^ b) (h : a + b < 1000000) (ha : 0 < a) (hb : 0 < b) : dMul S (.int i) (.int j) = some (.int (i * j)) := by
  refine dMul_int ?_
  have l1 : i.natAbs.log2 < a := by
    rcases Nat.eq_zero_or_pos i.natAbs with z | z
    · rw [z]; simpa using ha
    · exact (Nat.log2_lt (by omega)).mpr hi
  have l2 : j.natAbs.log2 < b := by
    rcases Nat.eq_zero_or_pos j.natAbs with z | z
    · rw [z]; simpa using hb
    · exact (Nat.log2_lt (by omega)).mpr hj
  omega
theorem mod_lt2 {i : Int} {k : Nat} (j : Int) (hj : 0 < j) (h : j.natAbs ≤ 2 ^ k) : (i % j).natAbs < 2 ^ k := by
  have h1 := Int.emod_nonneg i (show j ≠ 0 by omega)
  have h2 := Int.emod_lt_of_pos i hj
  omega
theorem atI_2 {α : Type} (x y z : α) (xs : List α) : atI (x :: y :: z :: xs) 2 = some z := by
  have h : (2 : Int) < xs.length + 1 + 1 + 1 := by omega
  simp [atI, ixN, h]
theorem dip_ok {n B : Nat} {S : Store} {m : Int} (h : Jar n B S) (hB : B < 2 ^ 60) (hm : 0 < m) (hm2 : m < 2 ^ 60) : ∃ r S', d__law_draw [.loc n, .int m] S = .ok (.int r) S' ∧ 0 ≤ r ∧ r < m ∧ Jar n (B + 1) S' ∧ At n S S' := by
  obtain ⟨f, g, b, c, hS, hb0, hb1, hc0, hc1⟩ := id h
  have hS2 : ∀ T : Store, (S ++ T)[n]? = some (some (.lst f [.int g, .int b, .int c])) := fun T => app_get hS
  have hn := get_lt hS
  have lm : m.natAbs.log2 < 9000 := by
    have : m.natAbs.log2 < 60 := (Nat.log2_lt (by omega)).mpr (by omega)
    omega
  unfold d__law_draw
  rw [ev_def]
  unfold b__law_draw
  by_cases hg : 0 < g
  · refine ⟨g % m, S.set n (some (.lst f [.int (g / m), .int b, .int c])), ?_, Int.emod_nonneg _ (by omega), Int.emod_lt_of_pos _ hm, ⟨f, _, b, c, by rw [List.getElem?_set_self hn], hb0, hb1, hc0, by omega⟩, ⟨_, rfl⟩⟩
    simp [ix_loc (hS2 _), hg, hm, lm, setAt, cellL, hS2, ixN, app_set hn]
  · have hS3 : ∀ T : Store, (S.set n (some (.lst f [.int g, .int b, .int (c + 1)])) ++ T)[n]? = some (some (.lst f [.int g, .int b, .int (c + 1)])) := fun T => app_get (by rw [List.getElem?_set_self hn])
    have hc : (c + 1).natAbs < 2 ^ 62 := by omega
    have e1 : ∀ S : Store, dMul S (.int 86028121) (.int (c + 1)) = some (.int (86028121 * (c + 1))) := fun S => mul_ok (a := 100) (b := 62) (by decide) hc (by decide) (by decide) (by decide)
    have e2 : ∀ (S : Store) (x y : Int), dMul S (.int (x % 2305843009213693951)) (.int (y % 2305843009213693951)) = some (.int (x % 2305843009213693951 * (y % 2305843009213693951))) := fun S x y => mul_ok (a := 100) (b := 100) (mod_lt2 _ (by decide) (by decide)) (mod_lt2 _ (by decide) (by decide)) (by decide) (by decide) (by decide)
    have e3 : ∀ S : Store, dMul S (.int 107) (.int (c + 1)) = some (.int (107 * (c + 1))) := fun S => mul_ok (a := 100) (b := 62) (by decide) hc (by decide) (by decide) (by decide)
    have e4 : ∀ (S : Store) (x : Int), dMul S (.int (x % 2305843009213693921)) (.int 3999971) = some (.int (x % 2305843009213693921 * 3999971)) := fun S x => mul_ok (a := 100) (b := 100) (mod_lt2 _ (by decide) (by decide)) (by decide) (by decide) (by decide) (by decide)
    have l3 : Nat.log2 65539 < 9000 := by decide
    apply Exists.intro
    refine ⟨S.set n (some (.lst f [.int g, .int b, .int (c + 1)])), ?_, ?_, ?_, ⟨f, g, b, c + 1, by rw [List.getElem?_set_self hn], hb0, hb1, by omega, by omega⟩, ⟨_, rfl⟩⟩
    · simp [atI_2, ix_loc (hS2 _), ix_loc (hS3 _), hg, hm, l3, e1, e2, e3, e4, setAt, cellL, hS2, ixN, app_set hn]
      rfl
    · exact Int.emod_nonneg _ (show m ≠ 0 by omega)
    · exact Int.emod_lt_of_pos _ hm
end Lk15

set_option maxHeartbeats 4000000
namespace Dv
open PySem PySem.Spec PyProof.Rows L2
set_option autoImplicit false
theorem andT_ok {c t : MT} {ρ : Rho} {S : Store} {b b' : Bool} (h : c ρ S = .ok b S) (h' : t ρ S = .ok b' S) : mAndT c t ρ S = .ok (b && b') S := by
  rw [ev_AndT, h]
  cases b <;> simp [h']
theorem orT_ok {c t : MT} {ρ : Rho} {S : Store} {b b' : Bool} (h : c ρ S = .ok b S) (h' : t ρ S = .ok b' S) : mOrT c t ρ S = .ok (b || b') S := by
  rw [ev_OrT, h]
  cases b <;> simp [h']
theorem two_ok {f : Store → D → D → Option D} {m n : ME} {ρ : Rho} {S : Store} {d e : D} {b : Bool} (h : m ρ S = .ok d S) (h' : n ρ S = .ok e S) (hf : f S d e = some (.bl b)) : mTB (mOp f m n) ρ S = .ok b S := by
  rw [ev_TB, ev_op, h, bind_ok, kOp1_eq, h', bind_ok, kOp2_eq, hf]
  rfl
theorem var_get {i : Nat} {ρ : Rho} {S : Store} {d : D} (h : ρ[i]? = some (some d)) (n : isNew d = false) : mVar i ρ S = .ok d S := var_ok h n
theorem setV_ok {b i : Nat} {m : ME} {ρ : Rho} {S S1 : Store} {d : D} (h : m ρ S = .ok d S1) (hp : Dv.plain d = true) : mSetV b i m ρ S = .nx (ρ.set i (some (Dv.cool d))) S1 := by
  rw [ev_setV, h, bindE_ok, kSetV_eq, holdV_plain hp]
theorem same_repr {m n : ME} {ρ : Rho} {S : Store} {d : D} {t : Str} (h : m ρ S = .ok d S) (h' : n ρ S = .ok d S) (hr : cRepr2 S [d] = some (.str t)) : mTB (mOp dNe (mBlt cRepr2 (aCons m aNil)) (mBlt cRepr2 (aCons n aNil))) ρ S = .ok false S := by
  refine two_ok (d := .str t) (e := .str t) (by simp [h, hr]) (by simp [h', hr]) ?_
  simp [dNe, eqD]
theorem ifS_no {t : MT} {a : MS} {ρ : Rho} {S : Store} (h : t ρ S = .ok false S) : mIfS t a mSkip ρ S = .nx ρ S := by
  rw [ev_ifS, h]
  rfl
end Dv
namespace Lk15
open PySem PySem.Spec PyProof.Rows L2 Dv
set_option autoImplicit false
theorem one_ok {n B : Nat} {S : Store} {xs : List D} (h : Jar n B S) (hB : B < 2 ^ 60) (hx : xs ≠ []) (hl : xs.length < 1000) (hp : ∀ x ∈ xs, Dv.plain x = true) : ∃ x S', x ∈ xs ∧ d__law_one_of [.loc n, .lst false xs] S = .ok (Dv.cool x) S' ∧ Jar n (B + 1) S' ∧ At n S S' := by
  have h0 : 0 < xs.length := List.length_pos_iff.mpr hx
  obtain ⟨r, S', e, r0, r1, hJ, hA⟩ := dip_ok (n := n) (S := S ++ nones 2) (m := xs.length) h.app hB (by omega) (by omega)
  have hn := h.lt
  obtain ⟨y, hS⟩ := hA.app hn
  obtain ⟨j, rfl⟩ : ∃ j : Nat, r = j := ⟨r.toNat, by omega⟩
  have hj : j < xs.length := by omega
  have hr : atI xs (j : Int) = some xs[j] := by rw [atI_nat _ _ hj]; simp
  have hpl : Dv.plain (Dv.cool xs[j]) = true := plain_cool (hp _ (List.getElem_mem hj))
  refine ⟨xs[j], S.set n (some y), List.getElem_mem _, ?_, ?_, ⟨y, rfl⟩⟩
  · unfold d__law_one_of
    rw [ev_def]
    unfold b__law_one_of
    simp [e, hS, hr, isNew_cool, rD_plain hpl]
  · rw [hS] at hJ
    exact hJ.unapp (by simpa using hn)
theorem jar_ok {ns : List Int} {at_ : Nat} {S : Store} (h2 : at_ ≤ 4) : ∃ g b, d__law_bag [.rol (ns.map .int), .int at_] S = .ok (.lst true [.int g, .int b, .int 0]) S ∧ 0 ≤ b ∧ b < 2 ^ 80 := by
  have ha : ((at_ : Nat) : Int).natAbs < 2 ^ 100 := Nat.lt_of_le_of_lt (show ((at_ : Nat) : Int).natAbs ≤ 4 by omega) (by decide)
  have e1 : ∀ S : Store, dMul S (.int 10000000000000000000000000000000000000000000000000000000000) (.int 100000000000000000000000000000000000000000000000000000000000) = some (.int (10000000000000000000000000000000000000000000000000000000000 * 100000000000000000000000000000000000000000000000000000000000)) := fun S => mul_ok (a := 200) (b := 200) (by decide) (by decide) (by decide) (by decide) (by decide)
  have e2 : ∀ (S : Store) (c : Int), dMul S (.int (c % 1152921504606846999)) (.int 101) = some (.int (c % 1152921504606846999 * 101)) := fun S c => mul_ok (a := 100) (b := 100) (mod_lt2 _ (by decide) (by decide)) (by decide) (by decide) (by decide) (by decide)
  have e3 : ∀ S : Store, dMul S (.int 1049) (.int (at_ : Int)) = some (.int (1049 * at_)) := fun S => mul_ok (a := 100) (b := 100) (by decide) ha (by decide) (by decide) (by decide)
  have e4 : ∀ (S : Store) (p : Prop) [Decidable p], dMul S (.int 59) (.int (if p then 1 else 0)) = some (.int (59 * (if p then 1 else 0))) := fun S p _ => mul_ok (a := 100) (b := 100) (by decide) (by split <;> decide) (by decide) (by decide) (by decide)
  have e5 : ∀ S : Store, dMul S (.int 149) (.int (at_ : Int)) = some (.int (149 * at_)) := fun S => mul_ok (a := 100) (b := 100) (by decide) ha (by decide) (by decide) (by decide)
  have bd : ∀ (c : Int) (p : Prop) [Decidable p], 0 ≤ c % 1152921504606846999 * 101 + 1049 * (at_ : Int) + 59 * (if p then 1 else 0) + 29 ∧ c % 1152921504606846999 * 101 + 1049 * (at_ : Int) + 59 * (if p then 1 else 0) + 29 < 2 ^ 80 := fun c p _ => by
    have h1 := Int.emod_nonneg c (show (1152921504606846999 : Int) ≠ 0 by decide)
    have h2 := Int.emod_lt_of_pos c (show (0 : Int) < 1152921504606846999 by decide)
    have : (2 : Int) ^ 80 = 1208925819614629174706176 := by decide
    rw [this]
    generalize c % 1152921504606846999 = m at h1 h2 ⊢
    split <;> constructor <;> omega
  unfold d__law_bag
  rw [ev_def]
  unfold b__law_bag
  by_cases hl : at_ < ns.length
  · have hx : atI (ns.map D.int) (at_ : Int) = some (.int ns[at_]) := by rw [atI_nat _ _ (by simpa using hl)]; simp [hl]
    apply Exists.intro
    apply Exists.intro
    apply And.intro
    · simp [hl, e1, e2, e3, e4, cLen, LINE, hx]
      exact ⟨rfl, rfl⟩
    · exact bd _ _
  · apply Exists.intro
    apply Exists.intro
    apply And.intro
    · simp [hl, e1, e2, e3, e4, e5, cLen, LINE]
      exact ⟨rfl, rfl⟩
    · exact bd _ _

/-- a good jar -/
def GoodJ (j : D) (B : Nat) : Prop := ∃ f g b c, j = .lst f [.int g, .int b, .int c] ∧ 0 ≤ b ∧ b < 2 ^ 80 ∧ 0 ≤ c ∧ c ≤ (B : Int)
theorem GoodJ.mono {j : D} {B B' : Nat} (h : GoodJ j B) (hb : B ≤ B') : GoodJ j B' := let ⟨f, g, b, c, h, h1, h2, h3, h4⟩ := h; ⟨f, g, b, c, h, h1, h2, h3, by omega⟩
/-- a draw, over a store of known shape: P before the jar's cell, T behind -/
theorem draw {P T : Store} {j : D} {B : Nat} {xs : List D} (h : GoodJ j B) (hB : B < 2 ^ 60) (hx : xs ≠ []) (hl : xs.length < 1000) (hp : ∀ x ∈ xs, Dv.plain x = true) :
    ∃ x j', x ∈ xs ∧ d__law_one_of [.loc P.length, .lst false xs] (P ++ some j :: T) = .ok (Dv.cool x) (P ++ some j' :: T) ∧ GoodJ j' (B + 1) := by
  obtain ⟨f, g, b, c, rfl, h1, h2, h3, h4⟩ := h
  have hJ : Jar P.length B (P ++ some (.lst f [.int g, .int b, .int c]) :: T) := ⟨f, g, b, c, by simp, h1, h2, h3, h4⟩
  obtain ⟨x, S', hm, e, ⟨f', g', b', c', q, q1, q2, q3, q4⟩, ⟨y, rfl⟩⟩ := one_ok hJ hB hx hl hp
  have hy : y = .lst f' [.int g', .int b', .int c'] := by
    have : (P ++ some (.lst f [.int g, .int b, .int c]) :: T).set P.length (some y) = P ++ some y :: T := by simp
    rw [this] at q
    simpa using q
  subst hy
  refine ⟨x, _, hm, ?_, f', g', b', c', rfl, q1, q2, q3, q4⟩
  rw [e]
  congr 1
  simp
theorem draw_stmt {P T : Store} {j j' : D} {base i : Nat} {E : ME} {ρ : Rho} {b : Bool} {xs : List D} {x : D} (h0 : ρ[0]? = some (some (.loc P.length))) (hE : E ρ (P ++ some j :: T) = .ok (.lst b xs) (P ++ some j :: T)) (hx : x ∈ xs) (hp : ∀ x ∈ xs, Dv.plain x = true)
    (e : d__law_one_of [.loc P.length, .lst false xs] (P ++ some j :: T) = .ok (Dv.cool x) (P ++ some j' :: T)) :
    mSetV base i (mCall d__law_one_of 2 (aCons (mVar 0) (aCons E aNil))) ρ (P ++ some j :: T) = .nx (ρ.set i (some (Dv.cool x))) (P ++ some j' :: T) := by
  refine (setV_ok (S1 := P ++ some j' :: T) (d := Dv.cool x) ?_ (plain_cool (hp x hx))).trans ?_
  · have : argsOk [.loc P.length, .lst b xs] = true := rfl
    simp [h0, hE, e]
  · have : Dv.cool (Dv.cool x) = Dv.cool x := by cases x <;> rfl
    rw [this]
end Lk15

set_option maxHeartbeats 0
namespace Dv
open PySem PySem.Spec PyProof.Rows L2
set_option autoImplicit false
theorem argsOk_cons {x : D} {ds : List D} (h : Dv.plain x = true) : argsOk (x :: ds) = argsOk ds := by cases x <;> first | rfl | cases h
theorem coolA_cons {x : D} {ds : List D} (h : Dv.plain x = true) (hc : Dv.cool x = x) : coolA (x :: ds) = x :: coolA ds := by
  cases x <;> first | (show Dv.cool _ :: _ = _; rw [hc]) | cases h
/-- a value that is held -/
def Hd (d : D) : Prop := isNew d = false ∧ Dv.plain d = true ∧ Dv.cool d = d
theorem call_of {f : Fn} {n : Nat} {a : MA} {ρ : Rho} {S : Store} {ds : List D} (h : a ρ S = .ok ds S) (ho : argsOk ds = true) (hc : coolA ds = ds) (hn : ds.length = n) : mCall f n a ρ S = f ds S := by
  unfold mCall
  rw [h, bind_ok, ho, hc]
  simp [hn]
theorem args_cons {m : ME} {n : MA} {ρ : Rho} {S : Store} {d : D} {ds : List D} (h : m ρ S = .ok d S) (h2 : n ρ S = .ok ds S) : aCons m n ρ S = .ok (d :: ds) S := by
  unfold aCons
  rw [h, bind_ok, h2]
  rfl
theorem lst1 {m : ME} {ρ : Rho} {S : Store} {d : D} (h : m ρ S = .ok d S) (hp : Dv.plain d = true) (hc : Dv.cool d = d) : mLst (aCons m aNil) ρ S = .ok (.lst true [d]) S := by
  simp [h, hp, hc, LINE]
theorem add2 {m1 m2 : ME} {ρ : Rho} {S : Store} {b1 b2 : Bool} {xs ys : List D} (h1 : m1 ρ S = .ok (.lst b1 xs) S) (h2 : m2 ρ S = .ok (.lst b2 ys) S) (hl : xs.length + ys.length ≤ 16777216) : mOp dAdd m1 m2 ρ S = .ok (.lst true (xs ++ ys)) S := by
  have : dAdd S (.lst b1 xs) (.lst b2 ys) = some (.lst true (xs ++ ys)) := by
    show (if xs.length + ys.length ≤ LINE then some (D.lst true (xs ++ ys)) else none) = _
    rw [if_pos (show xs.length + ys.length ≤ LINE from hl)]
  rw [ev_op, h1, bind_ok, kOp1_eq, h2, bind_ok, kOp2_eq, this]
  rfl
theorem seq_nx {m n : MS} {ρ ρ' : Rho} {S S' : Store} {r : ResS} (h : m ρ S = .nx ρ' S') (h2 : n ρ' S' = r) : mSeq m n ρ S = r := by
  rw [ev_seq, h]
  exact h2
theorem asg2 {m1 m2 : ME} {ρ : Rho} {S S' : Store} {d e : D} {i k : Nat} (h1 : m1 ρ S = .ok d S') (h2 : m2 ρ S' = .ok e S') (hd : Hd d) (he : Hd e) : mAsg (gT (gsC (gN i) (gsC (gN k) gs0))) (mTup (aCons m1 (aCons m2 aNil))) ρ S = .nx ((ρ.set i (some d)).set k (some e)) S' := by
  obtain ⟨n1, p1, c1⟩ := hd
  obtain ⟨n2, p2, c2⟩ := he
  have : (mTup (aCons m1 (aCons m2 aNil))) ρ S = .ok (.tup [d, e]) S' := by
    simp [h1, h2, p1, p2, c1, c2, LINE]
  have g1 : gN i d ρ = some (ρ.set i (some d)) := by unfold gN; rw [if_pos p1, c1]
  have g2 : ∀ ρ : Rho, gN k e ρ = some (ρ.set k (some e)) := fun ρ => by unfold gN; rw [if_pos p2, c2]
  have g : gT (gsC (gN i) (gsC (gN k) gs0)) (.tup [d, e]) ρ = some ((ρ.set i (some d)).set k (some e)) := by
    show (gN i d ρ).bind (fun ρ1 => (gN k e ρ1).bind fun ρ2 => some ρ2) = _
    rw [g1, Option.bind_some, g2]
    rfl
  unfold mAsg
  rw [this, bindE_ok]
  show (match gT (gsC (gN i) (gsC (gN k) gs0)) (.tup [d, e]) ρ with | some ρ' => ResS.nx ρ' S' | none => ResS.bad) = _
  rw [g]
theorem seq_assoc {m n R : MS} : mSeq (mSeq m n) R = mSeq m (mSeq n R) := by
  funext ρ S
  rw [ev_seq, ev_seq, ev_seq]
  cases m ρ S with
  | nx ρ1 S1 => show seqR (n ρ1 S1) R = mSeq n R ρ1 S1; rw [ev_seq]
  | _ => rfl
theorem two_okS {f : Store → D → D → Option D} {m n : ME} {ρ : Rho} {S S1 : Store} {d e : D} {b : Bool} (h : m ρ S = .ok d S1) (h' : n ρ S1 = .ok e S1) (hf : f S1 d e = some (.bl b)) : mTB (mOp f m n) ρ S = .ok b S1 := by
  rw [ev_TB, ev_op, h, bind_ok, kOp1_eq, h', bind_ok, kOp2_eq, hf]
  rfl
theorem ifS_noS {t : MT} {a : MS} {ρ : Rho} {S S1 : Store} (h : t ρ S = .ok false S1) : mIfS t a mSkip ρ S = .nx ρ S1 := by
  rw [ev_ifS, h]
  rfl
theorem same_ne {S : Store} {f f' : Bool} {xs : List D} {ps : List PyData} (hp : toPyL xs = some ps) (hs : SeqAt.shaped (PyData.list ps) = true) : dNe S (.lst f xs) (.lst f' xs) = some (.bl false) := by
  have he : PyData.eqv (PyData.list ps) (PyData.list ps) = true := by
    unfold SeqAt.shaped at hs
    simp only [Bool.and_eq_true, decide_eq_true_eq] at hs
    exact PySem.SeqAt.eqv_refl _ hs.1
  simp [dNe, eqD, pyOf, vw, toPy, hp, hs, he]
theorem asg3t {m1 m2 m3 : ME} {ρ : Rho} {S S1 S2 S3 : Store} {d e f : D} {i k l : Nat} (h1 : m1 ρ S = .ok d S1) (h2 : m2 ρ S1 = .ok e S2) (h3 : m3 ρ S2 = .ok f S3) (hd : Hd d) (he : Hd e) (hf : Hd f) : mAsg (gT (gsC (gN i) (gsC (gN k) (gsC (gN l) gs0)))) (mTup (aCons m1 (aCons m2 (aCons m3 aNil)))) ρ S = .nx (((ρ.set i (some d)).set k (some e)).set l (some f)) S3 := by
  obtain ⟨n1, p1, c1⟩ := hd
  obtain ⟨n2, p2, c2⟩ := he
  obtain ⟨n3, p3, c3⟩ := hf
  have : (mTup (aCons m1 (aCons m2 (aCons m3 aNil)))) ρ S = .ok (.tup [d, e, f]) S3 := by
    simp [h1, h2, h3, p1, p2, p3, c1, c2, c3, LINE]
  have g1 : gN i d ρ = some (ρ.set i (some d)) := by unfold gN; rw [if_pos p1, c1]
  have g2 : ∀ ρ : Rho, gN k e ρ = some (ρ.set k (some e)) := fun ρ => by unfold gN; rw [if_pos p2, c2]
  have g3 : ∀ ρ : Rho, gN l f ρ = some (ρ.set l (some f)) := fun ρ => by unfold gN; rw [if_pos p3, c3]
  have g : gT (gsC (gN i) (gsC (gN k) (gsC (gN l) gs0))) (.tup [d, e, f]) ρ = some (((ρ.set i (some d)).set k (some e)).set l (some f)) := by
    show (gN i d ρ).bind (fun ρ1 => (gN k e ρ1).bind fun ρ2 => (gN l f ρ2).bind fun ρ3 => some ρ3) = _
    rw [g1, Option.bind_some, g2, Option.bind_some, g3]
    rfl
  unfold mAsg
  rw [this, bindE_ok]
  show (match gT (gsC (gN i) (gsC (gN k) (gsC (gN l) gs0))) (.tup [d, e, f]) ρ with | some ρ' => ResS.nx ρ' S3 | none => ResS.bad) = _
  rw [g]
theorem asg2b {m1 m2 : ME} {ρ : Rho} {S S1 S2 : Store} {d e : D} {i k : Nat} (h1 : m1 ρ S = .ok d S1) (h2 : m2 ρ S1 = .ok e S2) (hd : Hd d) (he : Hd e) : mAsg (gT (gsC (gN i) (gsC (gN k) gs0))) (mTup (aCons m1 (aCons m2 aNil))) ρ S = .nx ((ρ.set i (some d)).set k (some e)) S2 := by
  obtain ⟨n1, p1, c1⟩ := hd
  obtain ⟨n2, p2, c2⟩ := he
  have : (mTup (aCons m1 (aCons m2 aNil))) ρ S = .ok (.tup [d, e]) S2 := by
    simp [h1, h2, p1, p2, c1, c2, LINE]
  have g1 : gN i d ρ = some (ρ.set i (some d)) := by unfold gN; rw [if_pos p1, c1]
  have g2 : ∀ ρ : Rho, gN k e ρ = some (ρ.set k (some e)) := fun ρ => by unfold gN; rw [if_pos p2, c2]
  have g : gT (gsC (gN i) (gsC (gN k) gs0)) (.tup [d, e]) ρ = some ((ρ.set i (some d)).set k (some e)) := by
    show (gN i d ρ).bind (fun ρ1 => (gN k e ρ1).bind fun ρ2 => some ρ2) = _
    rw [g1, Option.bind_some, g2]
    rfl
  unfold mAsg
  rw [this, bindE_ok]
  show (match gT (gsC (gN i) (gsC (gN k) gs0)) (.tup [d, e]) ρ with | some ρ' => ResS.nx ρ' S2 | none => ResS.bad) = _
  rw [g]
theorem par2v {base i k : Nat} {m1 m2 : ME} {ρ : Rho} {S S1 S2 : Store} {d e : D} (h1 : m1 ρ S = .ok d S1) (h2 : m2 ρ S1 = .ok e S2) (hd : Hd d) (he : Hd e) : mPar base i k false m1 m2 ρ S = .nx ((ρ.set i (some d)).set k (some e)) S2 := by
  obtain ⟨n1, p1, c1⟩ := hd
  obtain ⟨n2, p2, c2⟩ := he
  rw [ev_par, h1, bindE_ok, kPar1_eq, h2, bindE_ok, kPar2_eq, holdV_plain p1, c1]
  show holdV base k e (ρ.set i (some d)) S2 = _
  rw [holdV_plain p2, c2]
theorem lam_ok {ti : Nat} {nm t : PySem.Str} {cs : List Nat} {n : Nat} {hl : List HD} {m : ME} {ρ : Rho} {S S1 : Store} {d : D} (ht : S[ti]? = some (some (.tab nm))) (e : m ρ S = .ok d S1) (hp : Dv.plain d = true) (hc : Dv.cool d = d) :
    mLam ti nm (metR (okA (.str t)) cs n hl) m ρ S = .ok (.tup [.str t, d]) S1 := by
  unfold mLam
  rw [ht]
  show (if nm = nm then metR (okA (.str t)) cs n hl (m ρ S) else .bad) = _
  rw [if_pos rfl, e]
  show (match okA (.str t) d with | some d' => Res.ok d' S1 | none => .bad) = _
  unfold okA
  rw [if_pos hp, hc]
theorem call1 {f : Fn} {m : ME} {ρ : Rho} {S : Store} {w : D} (h : m ρ S = .ok w S) (d1 : Hd w) : mCall f 1 (aCons m aNil) ρ S = f [w] S :=
  call_of (args_cons h rfl) (by rw [argsOk_cons d1.2.1]; rfl) (by rw [coolA_cons d1.2.1 d1.2.2]; rfl) rfl
theorem def_run {N n : Nat} {b : Nat → MS} {ds : List D} {S T S' : Store} {ρ : Rho} {d d' : D} (hn : S.length = n) (hρ : ds.map some ++ List.replicate (N - ds.length) none = ρ) (hT : S ++ nones N = T) (run : b n ρ T = .rt d S') (hr : retD n d S' = some d') (ht : S'.take n = S) : mDef N b ds S = .ok d' S := by
  subst hn
  subst hρ
  subst hT
  rw [ev_def, run, defR_rt, hr, dR_some, ht]
theorem app_okD {i n : Nat} {m : ME} {ρ : Rho} {S : Store} {b : Bool} {xs : List D} {d : D} (h : ρ[i]? = some (some (.loc n))) (hS : S[n]? = some (some (.lst b xs))) (e : m ρ S = .ok d S) (hp : Dv.plain d = true) (hc : Dv.cool d = d) (hl : xs.length < 16777216) :
    mDrop (mMut fAppend (mVar i) (aCons m aNil)) ρ S = .nx ρ (S.set n (some (.lst b (xs ++ [d])))) := by
  have h1 : (cellL S n).isSome = true := by rw [cellL_of hS]; rfl
  have h2 := kMu2_append (d := d) hS hp (show xs.length < LINE from hl)
  rw [hc] at h2
  have h3 : mVar i ρ S = .ok (.loc n) S := var_get h rfl
  have h4 : aCons m aNil ρ S = .ok [d] S := args_cons e rfl
  rw [ev_drop, ev_mut, h3, bind_ok, kMu1_loc, if_pos h1, h4, bind_ok, h2]
  rfl
end Dv
namespace Lk15
open PySem PySem.Spec PyProof.Rows L2 Dv
set_option autoImplicit false
abbrev pre : Store := [some (.tab "_law_screens"), some (.tab "_law_plain"), some (.tab "_law_rows"), none, none, none, none, none, none]
abbrev S0 (j : D) : Store := pre ++ some j :: [none, none, none, none]
abbrev SR (j : D) : Store := pre ++ some j :: [none, none, none, none, none, none, none, none, none, none, none, none]
abbrev T4 : D := .obj 0 [.tup [.tup [.int 0, .int 1], .tup [.int 1, .int 2]], .int 4]
abbrev NL : List D := [.non, .str "table", .tup [.int 4, .tup []], .int 7, .lst false [], .dct false [], .tup [.tup [.int 0, .int 1]]]
abbrev RW : List D := [.non, .tup [], .tup [.int 0, .int 1, .int 2], .lst false [.int 0, .int 1, .int 2, .int 3], .tup [.int 0, .int 1, .int 2, .int 2], .tup [.int 0, .int 1, .int 2, .int 4], .tup [.int 0, .int 1, .int 2, .int 3, .int 0], .tup [.int 0, .int 1, .int 2, .str "3"], .tup [.int 0, .bl true, .int 2, .int 3], .int 7]
abbrev ON : List D := [.int 4, .int (-1), .non, .bl true, .str "0", .tup [.int 0], .int 1000000000000000000000000000000000000000000000000000000000000]
abbrev OE : List D := [.int 4, .int (-1), .non, .bl false, .str "2", .tup [.int 1]]
abbrev LO : List D := [.non, .lst false [.int 1], .tup [.int 1, .int 0], .tup [.int 1, .int 1], .tup [.int 4], .tup [.int (-1)], .tup [.bl true], .int 1, .tup [.str "1"]]
abbrev BA : List D := [.tup [.int 0, .int 1], .tup [.int 1, .int 0], .tup [.int 2, .int 1], .tup [.int 3, .int 3], .tup [.int 0, .int 0]]
inductive Kp : D → Prop
  | int (i : Int) : Kp (.int i)
  | bl (b : Bool) : Kp (.bl b)
  | non : Kp .non
  | str (x : PySem.Str) : Kp (.str x)
  | tup (xs : List D) : Kp (.tup xs)
inductive Kv : D → Prop
  | non : Kv .non
  | tup (xs : List D) : Kv (.tup xs)
  | lst (xs : List D) : Kv (.lst false xs)
  | int (i : Int) : Kv (.int i)
theorem kp_n {d : D} (h : d ∈ ON) : Kp d := by
  simp only [List.mem_cons, List.mem_nil_iff, or_false] at h
  rcases h with rfl | rfl | rfl | rfl | rfl | rfl | rfl <;> first | exact .int _ | exact .bl _ | exact .non | exact .str _ | exact .tup _
theorem kp_e {d : D} (h : d ∈ OE) : Kp d := by
  simp only [List.mem_cons, List.mem_nil_iff, or_false] at h
  rcases h with rfl | rfl | rfl | rfl | rfl | rfl <;> first | exact .int _ | exact .bl _ | exact .non | exact .str _ | exact .tup _
theorem kv_r {d : D} (h : d ∈ RW) : Kv d := by
  simp only [List.mem_cons, List.mem_nil_iff, or_false] at h
  rcases h with rfl | rfl | rfl | rfl | rfl | rfl | rfl | rfl | rfl | rfl <;> first | exact .non | exact .tup _ | exact .lst _ | exact .int _
theorem kv_l {d : D} (h : d ∈ LO) : Kv d := by
  simp only [List.mem_cons, List.mem_nil_iff, or_false] at h
  rcases h with rfl | rfl | rfl | rfl | rfl | rfl | rfl | rfl | rfl <;> first | exact .non | exact .tup _ | exact .lst _ | exact .int _
theorem hd_NL {d : D} (h : d ∈ NL) : Hd d := by
  simp only [List.mem_cons, List.mem_nil_iff, or_false] at h
  rcases h with rfl | rfl | rfl | rfl | rfl | rfl | rfl <;> exact ⟨rfl, rfl, rfl⟩
theorem hd_RW {d : D} (h : d ∈ RW) : Hd d := by
  simp only [List.mem_cons, List.mem_nil_iff, or_false] at h
  rcases h with rfl | rfl | rfl | rfl | rfl | rfl | rfl | rfl | rfl | rfl <;> exact ⟨rfl, rfl, rfl⟩
theorem hd_ON {d : D} (h : d ∈ ON) : Hd d := by
  simp only [List.mem_cons, List.mem_nil_iff, or_false] at h
  rcases h with rfl | rfl | rfl | rfl | rfl | rfl | rfl <;> exact ⟨rfl, rfl, rfl⟩
theorem hd_OE {d : D} (h : d ∈ OE) : Hd d := by
  simp only [List.mem_cons, List.mem_nil_iff, or_false] at h
  rcases h with rfl | rfl | rfl | rfl | rfl | rfl <;> exact ⟨rfl, rfl, rfl⟩
theorem hd_LO {d : D} (h : d ∈ LO) : Hd d := by
  simp only [List.mem_cons, List.mem_nil_iff, or_false] at h
  rcases h with rfl | rfl | rfl | rfl | rfl | rfl | rfl | rfl | rfl <;> exact ⟨rfl, rfl, rfl⟩
theorem hd_BA {d : D} (h : d ∈ BA) : Hd d := by
  simp only [List.mem_cons, List.mem_nil_iff, or_false] at h
  rcases h with rfl | rfl | rfl | rfl | rfl <;> exact ⟨rfl, rfl, rfl⟩
abbrev num (d : D) : D := .tup [.str "number", d]
abbrev tab1 : D := .tup [.str "table"]
abbrev fin1 : D := .tup [.str "fine"]
abbrev ord1 : D := .tup [.str "order"]
abbrev lot1 : D := .tup [.str "lot"]
abbrev opr1 : D := .tup [.str "operation"]
abbrev three (d : D) : D := .lst true [d, d, d]
abbrev seven (d : D) : D := .lst true [d, d, d, d, d, d, d]
section
variable {no row one other lot bad j : D}
theorem plain_no (hn : no ∈ NL) : d__law_plain [no] (SR j) = .ok (seven tab1) (SR j) := by
  simp only [List.mem_cons, List.mem_nil_iff, or_false] at hn
  rcases hn with rfl | rfl | rfl | rfl | rfl | rfl | rfl <;> kernel_rfl
theorem rows_no (hn : no ∈ NL) (hr : Kv row) : d__law_rows [no, row] (SR j) = .ok (three tab1) (SR j) := by
  simp only [List.mem_cons, List.mem_nil_iff, or_false] at hn
  rcases hn with rfl | rfl | rfl | rfl | rfl | rfl | rfl <;> cases hr <;> kernel_rfl
theorem screens_no (hn : no ∈ NL) (h1 : Kp one) (h2 : Kp other) (h3 : Kv lot) : d__law_screens [no, one, other, lot] (SR j) = .ok (three tab1) (SR j) := by
  simp only [List.mem_cons, List.mem_nil_iff, or_false] at hn
  rcases hn with rfl | rfl | rfl | rfl | rfl | rfl | rfl <;> cases h1 <;> cases h2 <;> cases h3 <;> kernel_rfl
theorem plain_fine : d__law_plain [T4] (SR j) = .ok (seven fin1) (SR j) := by kernel_rfl
theorem rows_fine (hr : row ∈ RW) : d__law_rows [T4, row] (SR j) = .ok (three ord1) (SR j) := by
  simp only [List.mem_cons, List.mem_nil_iff, or_false] at hr
  rcases hr with rfl | rfl | rfl | rfl | rfl | rfl | rfl | rfl | rfl | rfl <;> kernel_rfl
theorem screens_one (h1 : one ∈ ON) (h2 : Kp other) (h3 : Kv lot) : d__law_screens [T4, one, other, lot] (SR j) = .ok (three (num one)) (SR j) := by
  simp only [List.mem_cons, List.mem_nil_iff, or_false] at h1
  rcases h1 with rfl | rfl | rfl | rfl | rfl | rfl | rfl <;> cases h2 <;> cases h3 <;> kernel_rfl
theorem screens_other (h2 : other ∈ OE) (h3 : Kv lot) : d__law_screens [T4, .int 0, other, lot] (SR j) = .ok (three (num other)) (SR j) := by
  simp only [List.mem_cons, List.mem_nil_iff, or_false] at h2
  rcases h2 with rfl | rfl | rfl | rfl | rfl | rfl <;> cases h3 <;> kernel_rfl
theorem screens_02 (h3 : lot ∈ LO) : d__law_screens [T4, .int 0, .int 2, lot] (SR j) = .ok (.lst true [lot1, fin1, fin1]) (SR j) := by
  simp only [List.mem_cons, List.mem_nil_iff, or_false] at h3
  rcases h3 with rfl | rfl | rfl | rfl | rfl | rfl | rfl | rfl | rfl <;> kernel_rfl
theorem screens_01 (h3 : lot ∈ LO) : d__law_screens [T4, .int 0, .int 1, lot] (SR j) = .ok (.lst true [lot1, opr1, opr1]) (SR j) := by
  simp only [List.mem_cons, List.mem_nil_iff, or_false] at h3
  rcases h3 with rfl | rfl | rfl | rfl | rfl | rfl | rfl | rfl | rfl <;> kernel_rfl
end
end Lk15

set_option maxHeartbeats 0
namespace Lk15
open PySem PySem.Spec PyProof.Rows L2 Dv
set_option autoImplicit false
noncomputable def r0 (base : Nat) : MS := (mSetV base 1 (mCall d_Table 2 (aCons (mK (.int 4)) (aCons (mTup (aCons (mTup (aCons (mK (.int 0)) (aCons (mK (.int 1)) aNil))) (aCons (mTup (aCons (mK (.int 1)) (aCons (mK (.int 2)) aNil))) aNil))) aNil))))
noncomputable def r1 (base : Nat) : MS := (mSetV base 2 (mCall d__law_one_of 2 (aCons (mVar 0) (aCons (mLst (aCons (mK .non) (aCons (mK (.str "table")) (aCons (mTup (aCons (mK (.int 4)) (aCons (mTup aNil) aNil))) (aCons (mK (.int 7)) (aCons (mLst aNil) (aCons mDct0 (aCons (mTup (aCons (mTup (aCons (mK (.int 0)) (aCons (mK (.int 1)) aNil))) aNil)) aNil)))))))) aNil))))
noncomputable def r2 (base : Nat) : MS := (mSetV base 3 (mCall d__law_one_of 2 (aCons (mVar 0) (aCons (mLst (aCons (mK .non) (aCons (mTup aNil) (aCons (mTup (aCons (mK (.int 0)) (aCons (mK (.int 1)) (aCons (mK (.int 2)) aNil)))) (aCons (mLst (aCons (mK (.int 0)) (aCons (mK (.int 1)) (aCons (mK (.int 2)) (aCons (mK (.int 3)) aNil))))) (aCons (mTup (aCons (mK (.int 0)) (aCons (mK (.int 1)) (aCons (mK (.int 2)) (aCons (mK (.int 2)) aNil))))) (aCons (mTup (aCons (mK (.int 0)) (aCons (mK (.int 1)) (aCons (mK (.int 2)) (aCons (mK (.int 4)) aNil))))) (aCons (mTup (aCons (mK (.int 0)) (aCons (mK (.int 1)) (aCons (mK (.int 2)) (aCons (mK (.int 3)) (aCons (mK (.int 0)) aNil)))))) (aCons (mTup (aCons (mK (.int 0)) (aCons (mK (.int 1)) (aCons (mK (.int 2)) (aCons (mK (.str "3")) aNil))))) (aCons (mTup (aCons (mK (.int 0)) (aCons (mK (.bl true)) (aCons (mK (.int 2)) (aCons (mK (.int 3)) aNil))))) (aCons (mK (.int 7)) aNil))))))))))) aNil))))
noncomputable def r3 (base : Nat) : MS := (mPar base 6 7 false (mCall d__law_one_of 2 (aCons (mVar 0) (aCons (mLst (aCons (mK (.int 4)) (aCons (mUn dNeg (mK (.int 1))) (aCons (mK .non) (aCons (mK (.bl true)) (aCons (mK (.str "0")) (aCons (mTup (aCons (mK (.int 0)) aNil)) (aCons (mOp dPow (mK (.int 10)) (mK (.int 60))) aNil)))))))) aNil))) (mCall d__law_one_of 2 (aCons (mVar 0) (aCons (mLst (aCons (mK (.int 4)) (aCons (mUn dNeg (mK (.int 1))) (aCons (mK .non) (aCons (mK (.bl false)) (aCons (mK (.str "2")) (aCons (mTup (aCons (mK (.int 1)) aNil)) aNil))))))) aNil))))
noncomputable def r4 (base : Nat) : MS := (mSetV base 4 (mCall d__law_one_of 2 (aCons (mVar 0) (aCons (mLst (aCons (mK .non) (aCons (mLst (aCons (mK (.int 1)) aNil)) (aCons (mTup (aCons (mK (.int 1)) (aCons (mK (.int 0)) aNil))) (aCons (mTup (aCons (mK (.int 1)) (aCons (mK (.int 1)) aNil))) (aCons (mTup (aCons (mK (.int 4)) aNil)) (aCons (mTup (aCons (mUn dNeg (mK (.int 1))) aNil)) (aCons (mTup (aCons (mK (.bl true)) aNil)) (aCons (mK (.int 1)) (aCons (mTup (aCons (mK (.str "1")) aNil)) aNil)))))))))) aNil))))
noncomputable def r5 (base : Nat) : MS := (mIfS (mTB (mOp dNe (mOp dAdd (mOp dAdd (mCall d__law_plain 1 (aCons (mVar 2) aNil)) (mCall d__law_rows 2 (aCons (mVar 2) (aCons (mVar 3) aNil)))) (mCall d__law_screens 4 (aCons (mVar 2) (aCons (mVar 6) (aCons (mVar 7) (aCons (mVar 4) aNil)))))) (mOp dMul (mLst (aCons (mTup (aCons (mK (.str "table")) aNil)) aNil)) (mK (.int 13))))) (mRet (mK (.bl false))) mSkip)
noncomputable def r6 (base : Nat) : MS := (mIfS (mOrT (mTB (mOp dNe (mCall d__law_plain 1 (aCons (mVar 1) aNil)) (mOp dMul (mLst (aCons (mTup (aCons (mK (.str "fine")) aNil)) aNil)) (mK (.int 7))))) (mTB (mOp dNe (mCall d__law_rows 2 (aCons (mVar 1) (aCons (mVar 3) aNil))) (mOp dMul (mLst (aCons (mTup (aCons (mK (.str "order")) aNil)) aNil)) (mK (.int 3)))))) (mRet (mK (.bl false))) mSkip)
noncomputable def r7 (base : Nat) : MS := (mIfS (mOrT (mTB (mOp dNe (mBlt cRepr3 (aCons (mCall d__law_screens 4 (aCons (mVar 1) (aCons (mVar 6) (aCons (mVar 7) (aCons (mVar 4) aNil))))) aNil)) (mBlt cRepr3 (aCons (mOp dMul (mLst (aCons (mTup (aCons (mK (.str "number")) (aCons (mVar 6) aNil))) aNil)) (mK (.int 3))) aNil)))) (mTB (mOp dNe (mBlt cRepr3 (aCons (mCall d__law_screens 4 (aCons (mVar 1) (aCons (mK (.int 0)) (aCons (mVar 7) (aCons (mVar 4) aNil))))) aNil)) (mBlt cRepr3 (aCons (mOp dMul (mLst (aCons (mTup (aCons (mK (.str "number")) (aCons (mVar 7) aNil))) aNil)) (mK (.int 3))) aNil))))) (mRet (mK (.bl false))) mSkip)
noncomputable def r8 (base : Nat) : MS := (mIfS (mOrT (mTB (mOp dNe (mCall d__law_screens 4 (aCons (mVar 1) (aCons (mK (.int 0)) (aCons (mK (.int 2)) (aCons (mVar 4) aNil))))) (mOp dAdd (mLst (aCons (mTup (aCons (mK (.str "lot")) aNil)) aNil)) (mOp dMul (mLst (aCons (mTup (aCons (mK (.str "fine")) aNil)) aNil)) (mK (.int 2)))))) (mTB (mOp dNe (mCall d__law_screens 4 (aCons (mVar 1) (aCons (mK (.int 0)) (aCons (mK (.int 1)) (aCons (mVar 4) aNil))))) (mOp dAdd (mLst (aCons (mTup (aCons (mK (.str "lot")) aNil)) aNil)) (mOp dMul (mLst (aCons (mTup (aCons (mK (.str "operation")) aNil)) aNil)) (mK (.int 2))))))) (mRet (mK (.bl false))) mSkip)
noncomputable def r9 (base : Nat) : MS := (mSetV base 5 (mCall d__law_one_of 2 (aCons (mVar 0) (aCons (mLst (aCons (mTup (aCons (mK (.int 0)) (aCons (mK (.int 1)) aNil))) (aCons (mTup (aCons (mK (.int 1)) (aCons (mK (.int 0)) aNil))) (aCons (mTup (aCons (mK (.int 2)) (aCons (mK (.int 1)) aNil))) (aCons (mTup (aCons (mK (.int 3)) (aCons (mK (.int 3)) aNil))) (aCons (mTup (aCons (mK (.int 0)) (aCons (mK (.int 0)) aNil))) aNil)))))) aNil))))
noncomputable def r10 (base : Nat) : MS := (mRet (mOp dEq (mCall d__law_screens 4 (aCons (mVar 1) (aCons (mOp dIx3 (mVar 5) (mK (.int 0))) (aCons (mOp dIx3 (mVar 5) (mK (.int 1))) (aCons (mTup aNil) aNil))))) (mOp dMul (mLst (aCons (mTup (aCons (mK (.str "operation")) aNil)) aNil)) (mK (.int 3)))))
theorem b_eq (base : Nat) : b__law_right base = mSeq (r0 base) (mSeq (r1 base) (mSeq (r2 base) (mSeq (r3 base) (mSeq (r4 base) (mSeq (r5 base) (mSeq (r6 base) (mSeq (r7 base) (mSeq (r8 base) (mSeq (r9 base) (r10 base)))))))))) := rfl
noncomputable def eNL : ME := (mLst (aCons (mK .non) (aCons (mK (.str "table")) (aCons (mTup (aCons (mK (.int 4)) (aCons (mTup aNil) aNil))) (aCons (mK (.int 7)) (aCons (mLst aNil) (aCons mDct0 (aCons (mTup (aCons (mTup (aCons (mK (.int 0)) (aCons (mK (.int 1)) aNil))) aNil)) aNil))))))))
noncomputable def eRW : ME := (mLst (aCons (mK .non) (aCons (mTup aNil) (aCons (mTup (aCons (mK (.int 0)) (aCons (mK (.int 1)) (aCons (mK (.int 2)) aNil)))) (aCons (mLst (aCons (mK (.int 0)) (aCons (mK (.int 1)) (aCons (mK (.int 2)) (aCons (mK (.int 3)) aNil))))) (aCons (mTup (aCons (mK (.int 0)) (aCons (mK (.int 1)) (aCons (mK (.int 2)) (aCons (mK (.int 2)) aNil))))) (aCons (mTup (aCons (mK (.int 0)) (aCons (mK (.int 1)) (aCons (mK (.int 2)) (aCons (mK (.int 4)) aNil))))) (aCons (mTup (aCons (mK (.int 0)) (aCons (mK (.int 1)) (aCons (mK (.int 2)) (aCons (mK (.int 3)) (aCons (mK (.int 0)) aNil)))))) (aCons (mTup (aCons (mK (.int 0)) (aCons (mK (.int 1)) (aCons (mK (.int 2)) (aCons (mK (.str "3")) aNil))))) (aCons (mTup (aCons (mK (.int 0)) (aCons (mK (.bl true)) (aCons (mK (.int 2)) (aCons (mK (.int 3)) aNil))))) (aCons (mK (.int 7)) aNil)))))))))))
noncomputable def eON : ME := (mLst (aCons (mK (.int 4)) (aCons (mUn dNeg (mK (.int 1))) (aCons (mK .non) (aCons (mK (.bl true)) (aCons (mK (.str "0")) (aCons (mTup (aCons (mK (.int 0)) aNil)) (aCons (mOp dPow (mK (.int 10)) (mK (.int 60))) aNil))))))))
noncomputable def eOE : ME := (mLst (aCons (mK (.int 4)) (aCons (mUn dNeg (mK (.int 1))) (aCons (mK .non) (aCons (mK (.bl false)) (aCons (mK (.str "2")) (aCons (mTup (aCons (mK (.int 1)) aNil)) aNil)))))))
noncomputable def eLO : ME := (mLst (aCons (mK .non) (aCons (mLst (aCons (mK (.int 1)) aNil)) (aCons (mTup (aCons (mK (.int 1)) (aCons (mK (.int 0)) aNil))) (aCons (mTup (aCons (mK (.int 1)) (aCons (mK (.int 1)) aNil))) (aCons (mTup (aCons (mK (.int 4)) aNil)) (aCons (mTup (aCons (mUn dNeg (mK (.int 1))) aNil)) (aCons (mTup (aCons (mK (.bl true)) aNil)) (aCons (mK (.int 1)) (aCons (mTup (aCons (mK (.str "1")) aNil)) aNil))))))))))
noncomputable def eBA : ME := (mLst (aCons (mTup (aCons (mK (.int 0)) (aCons (mK (.int 1)) aNil))) (aCons (mTup (aCons (mK (.int 1)) (aCons (mK (.int 0)) aNil))) (aCons (mTup (aCons (mK (.int 2)) (aCons (mK (.int 1)) aNil))) (aCons (mTup (aCons (mK (.int 3)) (aCons (mK (.int 3)) aNil))) (aCons (mTup (aCons (mK (.int 0)) (aCons (mK (.int 0)) aNil))) aNil))))))
section
variable {no row one other lot bad j : D}
theorem call2 {f : Fn} {S : Store} {m1 m2 : ME} {ρ : Rho} {w x : D} (h1 : m1 ρ S = .ok w S) (h2 : m2 ρ S = .ok x S) (d1 : Hd w) (d2 : Hd x) : mCall f 2 (aCons m1 (aCons m2 aNil)) ρ S = f [w, x] S :=
  call_of (args_cons h1 (args_cons h2 rfl)) (by rw [argsOk_cons d1.2.1, argsOk_cons d2.2.1]; rfl) (by rw [coolA_cons d1.2.1 d1.2.2, coolA_cons d2.2.1 d2.2.2]; rfl) rfl
theorem call4 {f : Fn} {S : Store} {m1 m2 m3 m4 : ME} {ρ : Rho} {w x y z : D} (h1 : m1 ρ S = .ok w S) (h2 : m2 ρ S = .ok x S) (h3 : m3 ρ S = .ok y S) (h4 : m4 ρ S = .ok z S) (d1 : Hd w) (d2 : Hd x) (d3 : Hd y) (d4 : Hd z) : mCall f 4 (aCons m1 (aCons m2 (aCons m3 (aCons m4 aNil)))) ρ S = f [w, x, y, z] S :=
  call_of (args_cons h1 (args_cons h2 (args_cons h3 (args_cons h4 rfl)))) (by rw [argsOk_cons d1.2.1, argsOk_cons d2.2.1, argsOk_cons d3.2.1, argsOk_cons d4.2.1]; rfl) (by rw [coolA_cons d1.2.1 d1.2.2, coolA_cons d2.2.1 d2.2.2, coolA_cons d3.2.1 d3.2.2, coolA_cons d4.2.1 d4.2.2]; rfl) rfl
theorem var2 {S : Store} {i : Nat} {ρ : Rho} {d : D} (h : ρ[i]? = some (some d)) (hd : Hd d) : mVar i ρ S = .ok d S := var_get h hd.1
theorem hT4 : Hd T4 := ⟨rfl, rfl, rfl⟩
theorem hI (i : Int) : Hd (.int i) := ⟨rfl, rfl, rfl⟩
noncomputable def okS : Option D → Bool
  | some (.str _) => true
  | _ => false
theorem okS_ex {o : Option D} (h : okS o = true) : ∃ x, o = some (.str x) := by
  unfold okS at h
  split at h
  · exact ⟨_, rfl⟩
  · cases h
theorem same_repr3 {S : Store} {m n : ME} {ρ : Rho} {d : D} {t : PySem.Str} (h : m ρ S = .ok d S) (h' : n ρ S = .ok d S) (hr : cRepr3 S [d] = some (.str t)) : mTB (mOp dNe (mBlt cRepr3 (aCons m aNil)) (mBlt cRepr3 (aCons n aNil))) ρ S = .ok false S := by
  refine two_ok (d := .str t) (e := .str t) (by simp [h, hr]) (by simp [h', hr]) ?_
  simp [dNe, eqD]
theorem r0_ok : r0 14 [some (.loc 9), none, none, none, none, none, none, none] (SR j) = .nx [some (.loc 9), some T4, none, none, none, none, none, none] (SR j) := by kernel_rfl
theorem r5_ok (hn : no ∈ NL) (hr : row ∈ RW) (h1 : one ∈ ON) (h2 : other ∈ OE) (h3 : lot ∈ LO) : r5 14 [some (.loc 9), some T4, some no, some row, some lot, none, some one, some other] (SR j) = .nx [some (.loc 9), some T4, some no, some row, some lot, none, some one, some other] (SR j) := by
  have k1 := (call1 (f := d__law_plain) (S := SR j) (ρ := [some (.loc 9), some T4, some no, some row, some lot, none, some one, some other]) (m := mVar 2) (var2 rfl (hd_NL hn)) (hd_NL hn)).trans (plain_no hn)
  have k2 := (call2 (f := d__law_rows) (S := SR j) (ρ := [some (.loc 9), some T4, some no, some row, some lot, none, some one, some other]) (m1 := mVar 2) (m2 := mVar 3) (var2 rfl (hd_NL hn)) (var2 rfl (hd_RW hr)) (hd_NL hn) (hd_RW hr)).trans (rows_no hn (kv_r hr))
  have k3 := (call4 (f := d__law_screens) (S := SR j) (ρ := [some (.loc 9), some T4, some no, some row, some lot, none, some one, some other]) (m1 := mVar 2) (m2 := mVar 6) (m3 := mVar 7) (m4 := mVar 4) (var2 rfl (hd_NL hn)) (var2 rfl (hd_ON h1)) (var2 rfl (hd_OE h2)) (var2 rfl (hd_LO h3)) (hd_NL hn) (hd_ON h1) (hd_OE h2) (hd_LO h3)).trans (screens_no hn (kp_n h1) (kp_e h2) (kv_l h3))
  exact ifS_no (two_ok (e := .lst true [tab1, tab1, tab1, tab1, tab1, tab1, tab1, tab1, tab1, tab1, tab1, tab1, tab1]) (add2 (add2 k1 k2 (show 7 + 3 ≤ 16777216 by decide)) k3 (show 10 + 3 ≤ 16777216 by decide)) (by kernel_rfl) (by kernel_rfl))
theorem r6_ok (hr : row ∈ RW) : r6 14 [some (.loc 9), some T4, some no, some row, some lot, none, some one, some other] (SR j) = .nx [some (.loc 9), some T4, some no, some row, some lot, none, some one, some other] (SR j) := by
  have k1 := (call1 (f := d__law_plain) (S := SR j) (ρ := [some (.loc 9), some T4, some no, some row, some lot, none, some one, some other]) (m := mVar 1) (var2 rfl hT4) hT4).trans plain_fine
  have k2 := (call2 (f := d__law_rows) (S := SR j) (ρ := [some (.loc 9), some T4, some no, some row, some lot, none, some one, some other]) (m1 := mVar 1) (m2 := mVar 3) (var2 rfl hT4) (var2 rfl (hd_RW hr)) hT4 (hd_RW hr)).trans (rows_fine hr)
  exact ifS_no (orT_ok (b := false) (b' := false) (two_ok (e := seven fin1) k1 (by kernel_rfl) (by kernel_rfl)) (two_ok (e := three ord1) k2 (by kernel_rfl) (by kernel_rfl)))
theorem x7 (h1 : one ∈ ON) : (mOp dMul (mLst (aCons (mTup (aCons (mK (.str "number")) (aCons (mVar 6) aNil))) aNil)) (mK (.int 3))) [some (.loc 9), some T4, some no, some row, some lot, none, some one, some other] (SR j) = .ok (three (num one)) (SR j) := by
  simp only [List.mem_cons, List.mem_nil_iff, or_false] at h1
  rcases h1 with rfl | rfl | rfl | rfl | rfl | rfl | rfl <;> kernel_rfl
theorem y7 (h1 : other ∈ OE) : (mOp dMul (mLst (aCons (mTup (aCons (mK (.str "number")) (aCons (mVar 7) aNil))) aNil)) (mK (.int 3))) [some (.loc 9), some T4, some no, some row, some lot, none, some one, some other] (SR j) = .ok (three (num other)) (SR j) := by
  simp only [List.mem_cons, List.mem_nil_iff, or_false] at h1
  rcases h1 with rfl | rfl | rfl | rfl | rfl | rfl <;> kernel_rfl
theorem q7 (h1 : one ∈ ON) : ∃ x, cRepr3 (SR j) [three (num one)] = some (.str x) := by
  refine okS_ex ?_
  simp only [List.mem_cons, List.mem_nil_iff, or_false] at h1
  rcases h1 with rfl | rfl | rfl | rfl | rfl | rfl | rfl <;> kernel_rfl
theorem p7 (h1 : other ∈ OE) : ∃ x, cRepr3 (SR j) [three (num other)] = some (.str x) := by
  refine okS_ex ?_
  simp only [List.mem_cons, List.mem_nil_iff, or_false] at h1
  rcases h1 with rfl | rfl | rfl | rfl | rfl | rfl <;> kernel_rfl
theorem r7_ok (h1 : one ∈ ON) (h2 : other ∈ OE) (h3 : lot ∈ LO) : r7 14 [some (.loc 9), some T4, some no, some row, some lot, none, some one, some other] (SR j) = .nx [some (.loc 9), some T4, some no, some row, some lot, none, some one, some other] (SR j) := by
  obtain ⟨t, ht⟩ := q7 (j := j) h1
  obtain ⟨u, hu⟩ := p7 (j := j) h2
  have k1 := (call4 (f := d__law_screens) (S := SR j) (ρ := [some (.loc 9), some T4, some no, some row, some lot, none, some one, some other]) (m1 := mVar 1) (m2 := mVar 6) (m3 := mVar 7) (m4 := mVar 4) (var2 rfl hT4) (var2 rfl (hd_ON h1)) (var2 rfl (hd_OE h2)) (var2 rfl (hd_LO h3)) hT4 (hd_ON h1) (hd_OE h2) (hd_LO h3)).trans (screens_one h1 (kp_e h2) (kv_l h3))
  have k2 := (call4 (f := d__law_screens) (S := SR j) (ρ := [some (.loc 9), some T4, some no, some row, some lot, none, some one, some other]) (m1 := mVar 1) (m2 := mK (.int 0)) (m3 := mVar 7) (m4 := mVar 4) (var2 rfl hT4) rfl (var2 rfl (hd_OE h2)) (var2 rfl (hd_LO h3)) hT4 (hI 0) (hd_OE h2) (hd_LO h3)).trans (screens_other h2 (kv_l h3))
  exact ifS_no (orT_ok (b := false) (b' := false) (same_repr3 k1 (x7 h1) ht) (same_repr3 k2 (y7 h2) hu))
theorem r8_ok (h3 : lot ∈ LO) : r8 14 [some (.loc 9), some T4, some no, some row, some lot, none, some one, some other] (SR j) = .nx [some (.loc 9), some T4, some no, some row, some lot, none, some one, some other] (SR j) := by
  have k1 := (call4 (f := d__law_screens) (S := SR j) (ρ := [some (.loc 9), some T4, some no, some row, some lot, none, some one, some other]) (m1 := mVar 1) (m2 := mK (.int 0)) (m3 := mK (.int 2)) (m4 := mVar 4) (var2 rfl hT4) rfl rfl (var2 rfl (hd_LO h3)) hT4 (hI 0) (hI 2) (hd_LO h3)).trans (screens_02 h3)
  have k2 := (call4 (f := d__law_screens) (S := SR j) (ρ := [some (.loc 9), some T4, some no, some row, some lot, none, some one, some other]) (m1 := mVar 1) (m2 := mK (.int 0)) (m3 := mK (.int 1)) (m4 := mVar 4) (var2 rfl hT4) rfl rfl (var2 rfl (hd_LO h3)) hT4 (hI 0) (hI 1) (hd_LO h3)).trans (screens_01 h3)
  exact ifS_no (orT_ok (b := false) (b' := false) (two_ok (e := .lst true [lot1, fin1, fin1]) k1 (by kernel_rfl) (by kernel_rfl)) (two_ok (e := .lst true [lot1, opr1, opr1]) k2 (by kernel_rfl) (by kernel_rfl)))
theorem r10_ok (hb : bad ∈ BA) : r10 14 [some (.loc 9), some T4, some no, some row, some lot, some bad, some one, some other] (SR j) = .rt (.bl true) (SR j) := by
  simp only [List.mem_cons, List.mem_nil_iff, or_false] at hb
  rcases hb with rfl | rfl | rfl | rfl | rfl <;> kernel_rfl
end
end Lk15

set_option maxHeartbeats 0
namespace Lk15
open PySem PySem.Spec PyProof.Rows L2 Dv
set_option autoImplicit false
theorem def_run2 {N n : Nat} {b : Nat → MS} {ds : List D} {S T S' S2 : Store} {ρ : Rho} {d d' : D} (hn : S.length = n) (hρ : ds.map some ++ List.replicate (N - ds.length) none = ρ) (hT : S ++ nones N = T) (run : b n ρ T = .rt d S') (hr : retD n d S' = some d') (ht : S'.take n = S2) : mDef N b ds S = .ok d' S2 := by
  subst hn
  subst hρ
  subst hT
  rw [ev_def, run, defR_rt, hr, dR_some, ht]
theorem plain_of {L : List D} (h : ∀ d ∈ L, Hd d) : ∀ x ∈ L, Dv.plain x = true := fun x hx => (h x hx).2.1
theorem draw_call {P T : Store} {j j' : D} {E : ME} {ρ : Rho} {b : Bool} {xs : List D} {x : D} (h0 : ρ[0]? = some (some (.loc P.length))) (hE : E ρ (P ++ some j :: T) = .ok (.lst b xs) (P ++ some j :: T)) (hx : Hd x)
    (e : d__law_one_of [.loc P.length, .lst false xs] (P ++ some j :: T) = .ok (Dv.cool x) (P ++ some j' :: T)) :
    mCall d__law_one_of 2 (aCons (mVar 0) (aCons E aNil)) ρ (P ++ some j :: T) = .ok x (P ++ some j' :: T) := by
  have h : aCons (mVar 0) (aCons E aNil) ρ (P ++ some j :: T) = .ok [.loc P.length, .lst b xs] (P ++ some j :: T) := args_cons (var_get h0 rfl) (args_cons hE rfl)
  unfold mCall
  rw [h, bind_ok]
  show (if argsOk [] && decide (2 = 2) then d__law_one_of [.loc P.length, .lst false xs] (P ++ some j :: T) else .bad) = _
  rw [e, hx.2.2]
  rfl
theorem setV_hd {b i : Nat} {m : ME} {ρ : Rho} {S S1 : Store} {d : D} (h : m ρ S = .ok d S1) (hd : Hd d) : mSetV b i m ρ S = .nx (ρ.set i (some d)) S1 := by
  have := setV_ok (b := b) (i := i) h hd.2.1
  rw [hd.2.2] at this
  exact this
theorem right_ok {j : D} {B : Nat} (h : GoodJ j B) (hB : B + 6 < 2 ^ 60) : ∃ j', d__law_right [.loc 9] (S0 j) = .ok (.bl true) (S0 j') ∧ GoodJ j' (B + 6) := by
  obtain ⟨no, j1, hno, q0, g0⟩ := draw (P := pre) (T := [none, none, none, none, none, none, none, none, none, none, none, none]) (xs := NL) h (by omega) (by simp) (by decide) (plain_of fun d => hd_NL)
  obtain ⟨row, j2, hrow, q1, g1⟩ := draw (P := pre) (T := [none, none, none, none, none, none, none, none, none, none, none, none]) (xs := RW) g0 (by omega) (by simp) (by decide) (plain_of fun d => hd_RW)
  obtain ⟨one, j3, hone, q2, g2⟩ := draw (P := pre) (T := [none, none, none, none, none, none, none, none, none, none, none, none]) (xs := ON) g1 (by omega) (by simp) (by decide) (plain_of fun d => hd_ON)
  obtain ⟨other, j4, hother, q3, g3⟩ := draw (P := pre) (T := [none, none, none, none, none, none, none, none, none, none, none, none]) (xs := OE) g2 (by omega) (by simp) (by decide) (plain_of fun d => hd_OE)
  obtain ⟨lot, j5, hlot, q4, g4⟩ := draw (P := pre) (T := [none, none, none, none, none, none, none, none, none, none, none, none]) (xs := LO) g3 (by omega) (by simp) (by decide) (plain_of fun d => hd_LO)
  obtain ⟨bad, j6, hbad, q5, g5⟩ := draw (P := pre) (T := [none, none, none, none, none, none, none, none, none, none, none, none]) (xs := BA) g4 (by omega) (by simp) (by decide) (plain_of fun d => hd_BA)
  have s1 : r1 14 [some (.loc 9), some T4, none, none, none, none, none, none] (SR j) = .nx [some (.loc 9), some T4, some no, none, none, none, none, none] (SR j1) := by
    unfold r1
    exact setV_hd (b := 14) (i := 2) (draw_call (P := pre) (T := [none, none, none, none, none, none, none, none, none, none, none, none]) (j := j) (j' := j1) (b := true) (E := eNL) (ρ := [some (.loc 9), some T4, none, none, none, none, none, none]) (xs := NL) rfl (show _ = Res.ok (D.lst true NL) (SR j) by kernel_rfl) (hd_NL hno) q0) (hd_NL hno)
  have s2 : r2 14 [some (.loc 9), some T4, some no, none, none, none, none, none] (SR j1) = .nx [some (.loc 9), some T4, some no, some row, none, none, none, none] (SR j2) := by
    unfold r2
    exact setV_hd (b := 14) (i := 3) (draw_call (P := pre) (T := [none, none, none, none, none, none, none, none, none, none, none, none]) (j := j1) (j' := j2) (b := true) (E := eRW) (ρ := [some (.loc 9), some T4, some no, none, none, none, none, none]) (xs := RW) rfl (show _ = Res.ok (D.lst true RW) (SR j1) by kernel_rfl) (hd_RW hrow) q1) (hd_RW hrow)
  have s3 : r3 14 [some (.loc 9), some T4, some no, some row, none, none, none, none] (SR j2) = .nx [some (.loc 9), some T4, some no, some row, none, none, some one, some other] (SR j4) := by
    unfold r3
    exact par2v (base := 14) (i := 6) (k := 7) (draw_call (P := pre) (T := [none, none, none, none, none, none, none, none, none, none, none, none]) (j := j2) (j' := j3) (b := true) (E := eON) (ρ := [some (.loc 9), some T4, some no, some row, none, none, none, none]) (xs := ON) rfl (show _ = Res.ok (D.lst true ON) (SR j2) by kernel_rfl) (hd_ON hone) q2) (draw_call (P := pre) (T := [none, none, none, none, none, none, none, none, none, none, none, none]) (j := j3) (j' := j4) (b := true) (E := eOE) (ρ := [some (.loc 9), some T4, some no, some row, none, none, none, none]) (xs := OE) rfl (show _ = Res.ok (D.lst true OE) (SR j3) by kernel_rfl) (hd_OE hother) q3) (hd_ON hone) (hd_OE hother)
  have s4 : r4 14 [some (.loc 9), some T4, some no, some row, none, none, some one, some other] (SR j4) = .nx [some (.loc 9), some T4, some no, some row, some lot, none, some one, some other] (SR j5) := by
    unfold r4
    exact setV_hd (b := 14) (i := 4) (draw_call (P := pre) (T := [none, none, none, none, none, none, none, none, none, none, none, none]) (j := j4) (j' := j5) (b := true) (E := eLO) (ρ := [some (.loc 9), some T4, some no, some row, none, none, some one, some other]) (xs := LO) rfl (show _ = Res.ok (D.lst true LO) (SR j4) by kernel_rfl) (hd_LO hlot) q4) (hd_LO hlot)
  have s9 : r9 14 [some (.loc 9), some T4, some no, some row, some lot, none, some one, some other] (SR j5) = .nx [some (.loc 9), some T4, some no, some row, some lot, some bad, some one, some other] (SR j6) := by
    unfold r9
    exact setV_hd (b := 14) (i := 5) (draw_call (P := pre) (T := [none, none, none, none, none, none, none, none, none, none, none, none]) (j := j5) (j' := j6) (b := true) (E := eBA) (ρ := [some (.loc 9), some T4, some no, some row, some lot, none, some one, some other]) (xs := BA) rfl (show _ = Res.ok (D.lst true BA) (SR j5) by kernel_rfl) (hd_BA hbad) q5) (hd_BA hbad)
  refine ⟨j6, ?_, g5⟩
  unfold d__law_right
  have run : b__law_right 14 [some (.loc 9), none, none, none, none, none, none, none] (SR j) = .rt (.bl true) (SR j6) := by
    rw [b_eq]
    exact seq_nx r0_ok (seq_nx s1 (seq_nx s2 (seq_nx s3 (seq_nx s4 (seq_nx (r5_ok hno hrow hone hother hlot) (seq_nx (r6_ok hrow) (seq_nx (r7_ok hone hother hlot) (seq_nx (r8_ok hlot) (seq_nx s9 (r10_ok hbad))))))))))
  have h1 : (S0 j).length = 14 := by kernel_rfl
  have h2 : [D.loc 9].map some ++ List.replicate (8 - [D.loc 9].length) none = [some (.loc 9), none, none, none, none, none, none, none] := by kernel_rfl
  have h3 : S0 j ++ nones 8 = SR j := by kernel_rfl
  have h4 : retD 14 (.bl true) (SR j6) = some (.bl true) := by kernel_rfl
  have h5 : (SR j6).take 14 = S0 j6 := by kernel_rfl
  exact def_run2 h1 h2 h3 run h4 h5
noncomputable def turnG (f : Fn) : MS := (mIfS (mTB (mOp dNe (mComp (srR1 (aCons (mK (.int 5)) aNil)) [10] (gN 10) (mNotT (mT (mCall f 1 (aCons (mVar 6) aNil)))) (mK (.int 1))) (mLst aNil))) (mRet (mK (.bl false))) mSkip)
noncomputable def bagG (f : Fn) (base : Nat) : MS := (mSetO base 6 (mCall f 2 (aCons (mVar 0) (aCons (mVar 1) aNil))))
noncomputable def turnM (base : Nat) : MS := mSeq (bagG d__law_bag base) (turnG d__law_right)

noncomputable def z0 (base : Nat) : MS := (mAsg (gT (gsC (gN 7) (gsC (gN 8) gs0))) (mTup (aCons (mCall d_Table 2 (aCons (mK (.int 4)) (aCons (mTup (aCons (mTup (aCons (mK (.int 0)) (aCons (mK (.int 1)) aNil))) (aCons (mTup (aCons (mK (.int 1)) (aCons (mK (.int 2)) aNil))) aNil))) aNil))) (aCons (mCall d_Table 2 (aCons (mK (.int 11)) (aCons (mTup (aCons (mTup (aCons (mK (.int 0)) (aCons (mK (.int 1)) aNil))) (aCons (mTup (aCons (mK (.int 1)) (aCons (mK (.int 2)) aNil))) aNil))) aNil))) aNil))))
noncomputable def z1 (base : Nat) : MS := (mSetV base 2 (mLst (aCons (mCall d__law_screens 4 (aCons (mVar 7) (aCons (mK (.int 0)) (aCons (mK (.int 2)) (aCons (mTup (aCons (mK (.int 0)) (aCons (mK (.int 1)) aNil))) aNil))))) (aCons (mCall d__law_screens 4 (aCons (mVar 7) (aCons (mK (.int 0)) (aCons (mK (.int 2)) (aCons (mTup (aCons (mK (.int 1)) (aCons (mK (.int 2)) aNil))) aNil))))) (aCons (mCall d__law_screens 4 (aCons (mVar 7) (aCons (mK (.int 0)) (aCons (mK (.int 2)) (aCons (mTup aNil) aNil))))) (aCons (mCall d__law_screens 4 (aCons (mVar 8) (aCons (mK (.int 0)) (aCons (mK (.int 2)) (aCons (mTup (aCons (mK (.int 1)) aNil)) aNil))))) (aCons (mCall d__law_screens 4 (aCons (mVar 8) (aCons (mK (.int 0)) (aCons (mK (.int 1)) (aCons (mTup (aCons (mK (.int 3)) aNil)) aNil))))) aNil)))))))
noncomputable def z2 (base : Nat) : MS := (mSetV base 3 (mLst (aCons (mOp dAdd (mLst (aCons (mTup (aCons (mK (.str "operation")) aNil)) aNil)) (mOp dMul (mLst (aCons (mTup (aCons (mK (.str "fine")) aNil)) aNil)) (mK (.int 2)))) (aCons (mOp dAdd (mLst (aCons (mTup (aCons (mK (.str "operation")) aNil)) aNil)) (mOp dMul (mLst (aCons (mTup (aCons (mK (.str "fine")) aNil)) aNil)) (mK (.int 2)))) (aCons (mOp dMul (mLst (aCons (mTup (aCons (mK (.str "fine")) aNil)) aNil)) (mK (.int 3))) (aCons (mLst (aCons (mTup (aCons (mK (.str "fine")) aNil)) (aCons (mTup (aCons (mK (.str "many")) (aCons (mK (.int 10)) aNil))) (aCons (mTup (aCons (mK (.str "fine")) aNil)) aNil)))) (aCons (mOp dMul (mLst (aCons (mTup (aCons (mK (.str "operation")) aNil)) aNil)) (mK (.int 3))) aNil)))))))
noncomputable def z3 (base : Nat) : MS := (mSetV base 4 (mLst (aCons (mK .non) (aCons (mK (.int 0)) (aCons (mTup aNil) (aCons (mLst aNil) (aCons mDct0 (aCons (mK (.str "ring")) (aCons (mTup (aCons (mK (.str "ring")) aNil)) (aCons (mTup (aCons (mK (.str "ring")) (aCons (mTup aNil) aNil))) (aCons (mTup (aCons (mK (.str "sequence")) (aCons (mTup aNil) aNil))) (aCons (mTup (aCons (mK (.str "sequence")) (aCons (mK .non) aNil))) (aCons (mTup (aCons (mK .non) (aCons (mTup (aCons (mK (.int 0)) (aCons (mK (.int 1)) (aCons (mK (.int 2)) (aCons (mK (.int 3)) aNil))))) aNil))) (aCons (mTup (aCons (mK (.str "ring")) (aCons (mTup (aCons (mK (.int 0)) (aCons (mK (.int 1)) (aCons (mK (.int 2)) (aCons (mK (.int 9)) aNil))))) aNil))) (aCons (mTup (aCons (mK (.str "sequence")) (aCons (mTup (aCons (mK (.int 0)) (aCons (mK (.int 1)) (aCons (mK (.int 2)) (aCons (mK (.str "3")) aNil))))) aNil))) aNil)))))))))))))))
noncomputable def z4 (base : Nat) : MS := (mSetV base 5 (mComp (srL (mVar 4)) [9] (gN 9) (mOrT (mTB (mOp dNotB (mCall d_is_ring_paper 2 (aCons (mVar 7) (aCons (mVar 9) aNil))) (mK (.bl false)))) (mOrT (mTB (mOp dNotB (mCall d_is_ring 2 (aCons (mVar 7) (aCons (mVar 9) aNil))) (mK (.bl false)))) (mTB (mOp dNotB (mCall d_is_sequence 2 (aCons (mVar 7) (aCons (mVar 9) aNil))) (mK (.bl false)))))) (mVar 9)))
noncomputable def z5 (base : Nat) : MS := (mRet (mOp dEq (mBlt cRepr3 (aCons (mOp dAdd (mVar 2) (mLst (aCons (mVar 5) (aCons (mK (.int 10)) aNil)))) aNil)) (mBlt cRepr3 (aCons (mOp dAdd (mVar 3) (mLst (aCons (mLst aNil) (aCons (mK (.int 10)) aNil)))) aNil))))
noncomputable def endM (base : Nat) : MS := mSeq (z0 base) (mSeq (z1 base) (mSeq (z2 base) (mSeq (z3 base) (mSeq (z4 base) (z5 base)))))
theorem lawb_eq (base : Nat) : b_law base = mSeq (mFor (srR1 (aCons (mBlt cMax2 (aCons (mK (.int 1)) (aCons (mBlt cMin2 (aCons (mK (.int 2)) (aCons (mBlt cLen (aCons (mVar 0) aNil)) aNil))) aNil))) aNil)) (gN 1) (turnM base)) (endM base) := rfl
abbrev SL (x : Option D) : Store := pre ++ x :: [none, none, none, none]
theorem test_gen {f : Fn} {ρ : Rho} {S S1 : Store} (h : ρ[6]? = some (some (.loc 9))) (e : f [.loc 9] S = .ok (.bl true) S1) : mNotT (mT (mCall f 1 (aCons (mVar 6) aNil))) ρ S = .ok false S1 := by
  simp [h, e]
theorem bag_gen {f : Fn} {S : Store} {x0 : List D} {x1 : Int} {y : List D} {ρ : Rho} (h0 : ρ[0]? = some (some (.rol x0))) (h1 : ρ[1]? = some (some (.int x1))) (hl : 6 < ρ.length) (e : f [.rol x0, .int x1] S = .ok (.lst true y) S) : bagG f 3 ρ S = .nx (ρ.set 6 (some (.loc 9))) (S.set 9 (some (.lst true y))) := by
  unfold bagG
  simp [h0, h1, e, holdO, hl]
abbrev RL (x0 x1 x6 : Option D) : Rho := [x0, x1, none, none, none, none, x6, none, none, none, none]
theorem five {x0 x1 : Option D} : ∀ (k B : Nat) (lo : Int) (j : D), GoodJ j B → B + 6 * k < 2 ^ 60 →
    ∃ j', compL (gN 10) (mNotT (mT (mCall d__law_right 1 (aCons (mVar 6) aNil)))) (mK (.int 1)) (RL x0 x1 (some (.loc 9))) (rngD lo k) (S0 j) = .ok [] (S0 j') ∧ GoodJ j' (B + 6 * k)
  | 0, B, lo, j, h, _ => ⟨j, rfl, h⟩
  | k + 1, B, lo, j, h, hB => by
    obtain ⟨j1, e1, g1⟩ := right_ok h (by omega)
    obtain ⟨j2, e2, g2⟩ := five (x0 := x0) (x1 := x1) k (B + 6) (lo + 1) j1 g1 (by omega)
    refine ⟨j2, ?_, g2.mono (by omega)⟩
    have g : gN 10 (.int lo) (RL x0 x1 (some (.loc 9))) = some [x0, x1, none, none, none, none, some (.loc 9), none, none, none, some (.int lo)] := rfl
    have t : mNotT (mT (mCall d__law_right 1 (aCons (mVar 6) aNil))) [x0, x1, none, none, none, none, some (.loc 9), none, none, none, some (.int lo)] (S0 j) = .ok false (S0 j1) := test_gen rfl e1
    rw [rngD, compL, g]
    dsimp only
    rw [t]
    exact e2
theorem turn_ok {x0 x1 : Option D} {j : D} (h : GoodJ j 0) : ∃ j', turnG d__law_right (RL x0 x1 (some (.loc 9))) (S0 j) = .nx (RL x0 x1 (some (.loc 9))) (S0 j') := by
  obtain ⟨j', e, _⟩ := five (x0 := x0) (x1 := x1) 5 0 0 j h (by decide)
  refine ⟨j', ifS_noS ?_⟩
  have hs : srR1 (aCons (mK (.int 5)) aNil) (RL x0 x1 (some (.loc 9))) (S0 j) = .ok (rngD 0 5) (S0 j) := by kernel_rfl
  have hc : mComp (srR1 (aCons (mK (.int 5)) aNil)) [10] (gN 10) (mNotT (mT (mCall d__law_right 1 (aCons (mVar 6) aNil)))) (mK (.int 1)) (RL x0 x1 (some (.loc 9))) (S0 j) = .ok (.lst true []) (S0 j') := by
    have e' : compL (gN 10) (mNotT (mT (mCall d__law_right 1 (aCons (mVar 6) aNil)))) (mK (.int 1)) (wipeR (RL x0 x1 (some (.loc 9))) [10]) (rngD 0 5) (S0 j) = .ok [] (S0 j') := e
    unfold mComp
    rw [hs, bind_ok, e']
    rfl
  exact two_okS (e := .lst true []) hc (by kernel_rfl) (by kernel_rfl)
theorem turns {ns : List Int} : ∀ (k lo : Nat) (x : Option D) (x1 x6 : Option D), lo + k ≤ 3 →
    ∃ x1' x6' x', forL (gN 1) (turnM 3) (rngD (lo : Nat) k) (RL (some (.rol (ns.map .int))) x1 x6) (SL x) = .nx (RL (some (.rol (ns.map .int))) x1' x6') (SL x')
  | 0, lo, x, x1, x6, _ => ⟨x1, x6, x, rfl⟩
  | k + 1, lo, x, x1, x6, hk => by
    obtain ⟨g, b, e1, hb0, hb1⟩ := jar_ok (ns := ns) (at_ := lo) (S := SL x) (by omega)
    have hB : GoodJ (.lst true [.int g, .int b, .int 0]) 0 := ⟨true, g, b, 0, rfl, hb0, hb1, by decide, by decide⟩
    obtain ⟨j2, e2⟩ := turn_ok (x0 := some (.rol (ns.map .int))) (x1 := some (.int (lo : Nat))) hB
    obtain ⟨x1', x6', x', e3⟩ := turns (ns := ns) k (lo + 1) (some j2) (some (.int (lo : Nat))) (some (.loc 9)) (by omega)
    refine ⟨x1', x6', x', ?_⟩
    have e4 : ((lo : Nat) : Int) + 1 = ((lo + 1 : Nat) : Int) := by omega
    have e5 : turnM 3 (RL (some (.rol (ns.map .int))) (some (.int (lo : Nat))) x6) (SL x) = .nx (RL (some (.rol (ns.map .int))) (some (.int (lo : Nat))) (some (.loc 9))) (SL (some j2)) := by
      unfold turnM
      exact seq_nx (ρ' := RL (some (.rol (ns.map .int))) (some (.int (lo : Nat))) (some (.loc 9))) (S' := S0 (.lst true [.int g, .int b, .int 0])) (bag_gen rfl rfl (show 6 < 11 by decide) e1) e2
    have e6 : gN 1 (.int (lo : Nat)) (RL (some (.rol (ns.map .int))) x1 x6) = some (RL (some (.rol (ns.map .int))) (some (.int (lo : Nat))) x6) := rfl
    simp only [rngD, forL, e4]
    rw [e6]
    dsimp only
    rw [e5]
    exact e3
abbrev TW : D := .obj 0 [.tup [.tup [.int 0, .int 1], .tup [.int 1, .int 2]], .int 11]
abbrev TL : List D := [.lst false [opr1, fin1, fin1], .lst false [opr1, fin1, fin1], .lst false [fin1, fin1, fin1], .lst false [fin1, .tup [.str "many", .int 10], fin1], .lst false [opr1, opr1, opr1]]
abbrev OD : D := .lst false [.non, .int 0, .tup [], .lst false [], .dct false [], .str "ring", .tup [.str "ring"], .tup [.str "ring", .tup []], .tup [.str "sequence", .tup []], .tup [.str "sequence", .non], .tup [.non, .tup [.int 0, .int 1, .int 2, .int 3]], .tup [.str "ring", .tup [.int 0, .int 1, .int 2, .int 9]], .tup [.str "sequence", .tup [.int 0, .int 1, .int 2, .str "3"]]]
abbrev RE (x0 x1 x6 a b c d : Option D) : Rho := [x0, x1, a, b, c, d, x6, some T4, some TW, none, none]
section
variable {x0 x1 x6 x : Option D}
theorem z0_ok : z0 3 (RL x0 x1 x6) (SL x) = .nx (RE x0 x1 x6 none none none none) (SL x) := by kernel_rfl
theorem z1_ok : z1 3 (RE x0 x1 x6 none none none none) (SL x) = .nx (RE x0 x1 x6 (some (.lst false TL)) none none none) (SL x) := by kernel_rfl
theorem z2_ok : z2 3 (RE x0 x1 x6 (some (.lst false TL)) none none none) (SL x) = .nx (RE x0 x1 x6 (some (.lst false TL)) (some (.lst false TL)) none none) (SL x) := by kernel_rfl
theorem z3_ok : z3 3 (RE x0 x1 x6 (some (.lst false TL)) (some (.lst false TL)) none none) (SL x) = .nx (RE x0 x1 x6 (some (.lst false TL)) (some (.lst false TL)) (some OD) none) (SL x) := by kernel_rfl
theorem z4_ok : z4 3 (RE x0 x1 x6 (some (.lst false TL)) (some (.lst false TL)) (some OD) none) (SL x) = .nx (RE x0 x1 x6 (some (.lst false TL)) (some (.lst false TL)) (some OD) (some (.lst false []))) (SL x) := by kernel_rfl
theorem q5 : ∃ y, cRepr3 (SL x) [.lst true (TL ++ [.lst false [], .int 10])] = some (.str y) := okS_ex (by kernel_rfl)
theorem z5_ok : z5 3 (RE x0 x1 x6 (some (.lst false TL)) (some (.lst false TL)) (some OD) (some (.lst false []))) (SL x) = .rt (.bl true) (SL x) := by
  obtain ⟨y, hy⟩ := q5 (x := x)
  have e1 : (mOp dAdd (mVar 2) (mLst (aCons (mVar 5) (aCons (mK (.int 10)) aNil)))) (RE x0 x1 x6 (some (.lst false TL)) (some (.lst false TL)) (some OD) (some (.lst false []))) (SL x) = .ok (.lst true (TL ++ [.lst false [], .int 10])) (SL x) := by kernel_rfl
  have e2 : (mOp dAdd (mVar 3) (mLst (aCons (mLst aNil) (aCons (mK (.int 10)) aNil)))) (RE x0 x1 x6 (some (.lst false TL)) (some (.lst false TL)) (some OD) (some (.lst false []))) (SL x) = .ok (.lst true (TL ++ [.lst false [], .int 10])) (SL x) := by kernel_rfl
  have f1 : (mBlt cRepr3 (aCons (mOp dAdd (mVar 2) (mLst (aCons (mVar 5) (aCons (mK (.int 10)) aNil)))) aNil)) (RE x0 x1 x6 (some (.lst false TL)) (some (.lst false TL)) (some OD) (some (.lst false []))) (SL x) = .ok (.str y) (SL x) := by
    rw [ev_blt, args_cons e1 rfl, bind_ok]
    show opt (cRepr3 _ [_]) _ = _
    rw [hy]
    rfl
  have f2 : (mBlt cRepr3 (aCons (mOp dAdd (mVar 3) (mLst (aCons (mLst aNil) (aCons (mK (.int 10)) aNil)))) aNil)) (RE x0 x1 x6 (some (.lst false TL)) (some (.lst false TL)) (some OD) (some (.lst false []))) (SL x) = .ok (.str y) (SL x) := by
    rw [ev_blt, args_cons e2 rfl, bind_ok]
    show opt (cRepr3 _ [_]) _ = _
    rw [hy]
    rfl
  unfold z5
  rw [ev_ret, ev_op, f1, bind_ok, kOp1_eq, f2, bind_ok, kOp2_eq]
  have e3 : dEq (SL x) (.str y) (.str y) = some (.bl true) := by simp [dEq, eqD]
  rw [e3]
  rfl
theorem end_ok : endM 3 (RL x0 x1 x6) (SL x) = .rt (.bl true) (SL x) := seq_nx z0_ok (seq_nx z1_ok (seq_nx z2_ok (seq_nx z3_ok (seq_nx z4_ok z5_ok))))
end
theorem law_true : True63T ["_law_screens", "_law_plain", "_law_rows"] 63 d_law := by
  intro ns hl
  obtain ⟨k, hk, hk2⟩ : ∃ k : Nat, (k = 1 ∨ k = 2) ∧ (if (1 : Int) < (if ((ns.length : Nat) : Int) < 2 then ((ns.length : Nat) : Int) else 2) then (if ((ns.length : Nat) : Int) < 2 then ((ns.length : Nat) : Int) else 2) else 1) = (k : Int) := by
    by_cases h3 : ns.length < 2
    · exact ⟨1, by omega, by rw [if_pos (show ((ns.length : Nat) : Int) < 2 by omega), if_neg (by omega)]; rfl⟩
    · exact ⟨2, by omega, by rw [if_neg (show ¬ ((ns.length : Nat) : Int) < 2 by omega), if_pos (by decide)]; rfl⟩
  obtain ⟨x1, x6, x, e1⟩ := turns (ns := ns) k 0 none none none (by omega)
  refine ⟨(SL x).take 3, ?_⟩
  have hk3 : (k : Int) ≤ 16777216 := by omega
  have hk4 : -16777216 ≤ (k : Int) := by omega
  have hsrc : (srR1 (aCons (mBlt cMax2 (aCons (mK (.int 1)) (aCons (mBlt cMin2 (aCons (mK (.int 2)) (aCons (mBlt cLen (aCons (mVar 0) aNil)) aNil))) aNil))) aNil)) (RL (some (.rol (ns.map .int))) none none) (SL none) = .ok (rngD 0 k) (SL none) := by
    simp [hk2, hk3, hk4]
  unfold d_law
  rw [ev_def]
  have all : b_law 3 (RL (some (.rol (ns.map .int))) none none) (SL none) = .rt (.bl true) (SL x) := by
    rw [lawb_eq]
    refine seq_nx (ρ' := RL (some (.rol (ns.map .int))) x1 x6) (S' := SL x) ?_ end_ok
    rw [ev_for, hsrc, bindE_ok, kFor_eq]
    exact e1
  show defR 3 (b_law 3 (RL (some (.rol (ns.map .int))) none none) (SL none)) = _
  rw [all]
  rfl
end Lk15

set_option maxHeartbeats 0
namespace Dv
open PySem PySem.Spec PyProof.Rows L2
/-- the state behind the top -/
noncomputable abbrev endR (r : PySem.W.OpenRow) (M : Nat) (w : World) (os : OsState) : Option PySem.W.SharedT := HandSHeadRun.endF (HandSHeadRun.stepQ (HandSHeadRun.denQ HandSHeadRun.tabQ) r.prog w) M r.prog w os
/-- a run's equation in four: each wants its own memory -/
theorem run_four {r : PySem.W.OpenRow} {q : Program} {H : PySem.W.Hook} {ob : PySem.W.SharedT → H.α} {M : Nat} {loose : List PySem.Str} {w : World}
    (h0 : ∀ os : OsState, (endR r M w os).map (fun s => PySem.W.staticsOk (importedModules r.prog.main.body) (PySem.W.boot_heap w.params) s.abs.heap && PySem.W.namesBound r.prog s.abs.heap && PySem.W.gensDone s.abs) = some true)
    (h1 : ∀ os : OsState, (endR r M w os).map (fun s => PySem.W.laidKept (PySem.W.boot_heap w.params) s.abs.heap) = some true)
    (h2 : ∀ os : OsState, (endR r M w os).map (fun s => HandSHeadRun.seenQ q loose (importedModules r.prog.main.body) (fun s => PySem.W.xlAt q [] s && PySem.W.recOk r.toRowW.records s) s.abs) = some (PySem.W.openGood q loose))
    (h3 : ∀ os : OsState, (endR r M w os).map ob = some (H.val w)) : HandSHeadRun.RunEq r q H ob M loose w := by
  intro os
  have z := h0 os
  have a := h1 os
  have b := h2 os
  have c := h3 os
  unfold endR at z a b c
  rw [Option.map_eq_some_iff] at z a b c ⊢
  obtain ⟨s0, d1, d2⟩ := z
  obtain ⟨s, e1, e2⟩ := a
  obtain ⟨s', e3, e4⟩ := b
  obtain ⟨s'', e5, e6⟩ := c
  rw [d1] at e1 e3 e5
  cases e1
  cases e3
  cases e5
  have t : ∀ {α β γ : Type} {a a' : α} {b b' : β} {c c' : γ}, a = a' → b = b' → c = c' → (a, b, c) = (a', b', c') := fun h1 h2 h3 => by rw [h1, h2, h3]
  have l : HandSHeadRun.looksF r.prog (PySem.W.boot_heap w.params) s0.abs = true := by
    unfold HandSHeadRun.looksF
    exact Bool.and_eq_true_iff.mpr ⟨d2, e2⟩
  exact ⟨s0, d1, t l e4 e6⟩
/-- what the head reads, in three -/
theorem ob_three {r : PySem.W.OpenRow} {n M : Nat} {fa : List He.Fa} {fn : List He.DefD} {es : List ErD} {tf : List PySem.Str} {ex : PySem.W.Frag → Bool} {w : World}
    (h1 : ∀ os : OsState, (endR r M w os).map (fun s => obsE n fa [] [] [] (fun _ => true) (HandSHeadRun.getT s)) = some (valE [] []))
    (h2 : ∀ os : OsState, (endR r M w os).map (fun s => obsE n [] fn [] [] (fun _ => true) (HandSHeadRun.getT s)) = some (valE fn []))
    (h3 : ∀ os : OsState, (endR r M w os).map (fun s => obsE n [] [] es tf ex (HandSHeadRun.getT s)) = some (valE [] es)) (os : OsState) :
    (endR r M w os).map (fun s => obsE n fa fn es tf ex (HandSHeadRun.getT s)) = some (valE fn es) := by
  have a := h1 os
  have b := h2 os
  have c := h3 os
  rw [Option.map_eq_some_iff] at a b c ⊢
  obtain ⟨s, e1, p1⟩ := a
  obtain ⟨s', e2, p2⟩ := b
  obtain ⟨s'', e3, p3⟩ := c
  rw [e1] at e2 e3
  cases e2
  cases e3
  refine ⟨s, e1, ?_⟩
  have a1 : ((fa.all fun f => f.ok (fragE n (HandSHeadRun.getT s))) && true) = true := congrArg (fun z : AlE => z.1.1) p1
  have b1 : (true && fn.all fun d => d.ok (fragE n (HandSHeadRun.getT s))) = true := congrArg (fun z : AlE => z.1.1) p2
  have b2 : (fn.map fun d => He.fnW (fragE n (HandSHeadRun.getT s)) d.at_) = fn.map He.DefD.val := congrArg (fun z : AlE => z.1.2) p2
  have c3 : es.map (fun e => eW (fragE n (HandSHeadRun.getT s)) e.c) = es.map ErD.val := congrArg (fun z : AlE => z.2.1) p3
  have c4 : (ex (fragE n (HandSHeadRun.getT s)) && tabsE (HandSHeadRun.getT s) tf (fragE n (HandSHeadRun.getT s))) = true := congrArg (fun z : AlE => z.2.2) p3
  rw [Bool.and_true] at a1
  rw [Bool.true_and] at b1
  unfold obsE obsE0 valE He.obsD He.valD
  rw [b2, c3, c4, a1, b1]
  rfl
end Dv
namespace Lk15
open PySem PySem.Spec PyProof.Rows L2 Dv
def D__law_bag : He.DefD := ⟨("_law_bag", none), "_law_bag", "_law_bag", defArgs s__law_bag, defBody s__law_bag, defScope s__law_bag, [], []⟩
def D_is_whole : He.DefD := ⟨("is_whole", none), "is_whole", "is_whole", defArgs s_is_whole, defBody s_is_whole, defScope s_is_whole, [], []⟩
def D_is_within : He.DefD := ⟨("is_within", none), "is_within", "is_within", defArgs s_is_within, defBody s_is_within, defScope s_is_within, [], []⟩
def D_is_pair_of : He.DefD := ⟨("is_pair_of", none), "is_pair_of", "is_pair_of", defArgs s_is_pair_of, defBody s_is_pair_of, defScope s_is_pair_of, [], []⟩
def D_are_meetings : He.DefD := ⟨("are_meetings", none), "are_meetings", "are_meetings", defArgs s_are_meetings, defBody s_are_meetings, defScope s_are_meetings, [], []⟩
def D_Table : He.DefD := ⟨("Table", some "__init__"), "__init__", "Table.__init__", defArgs s_Table, defBody s_Table, defScope s_Table, [], []⟩
def D__law_met : He.DefD := ⟨("_law_met", none), "_law_met", "_law_met", defArgs s__law_met, defBody s__law_met, defScope s__law_met, [], []⟩
def D_require_table : He.DefD := ⟨("require_table", none), "require_table", "require_table", defArgs s_require_table, defBody s_require_table, defScope s_require_table, [], []⟩
def D_require_people : He.DefD := ⟨("require_people", none), "require_people", "require_people", defArgs s_require_people, defBody s_require_people, defScope s_require_people, [], []⟩
def D_rows_in : He.DefD := ⟨("rows_in", none), "rows_in", "rows_in", defArgs s_rows_in, defBody s_rows_in, defScope s_rows_in, [], []⟩
def D_require_screened : He.DefD := ⟨("require_screened", none), "require_screened", "require_screened", defArgs s_require_screened, defBody s_require_screened, defScope s_require_screened, [], []⟩
def D_people_in : He.DefD := ⟨("people_in", none), "people_in", "people_in", defArgs s_people_in, defBody s_people_in, defScope s_people_in, [], []⟩
def D_reached : He.DefD := ⟨("reached", none), "reached", "reached", defArgs s_reached, defBody s_reached, defScope s_reached, [], []⟩
def D_is_screen_in : He.DefD := ⟨("is_screen_in", none), "is_screen_in", "is_screen_in", defArgs s_is_screen_in, defBody s_is_screen_in, defScope s_is_screen_in, [], []⟩
def D_is_person : He.DefD := ⟨("is_person", none), "is_person", "is_person", defArgs s_is_person, defBody s_is_person, defScope s_is_person, [], []⟩
def D_is_lot_of : He.DefD := ⟨("is_lot_of", none), "is_lot_of", "is_lot_of", defArgs s_is_lot_of, defBody s_is_lot_of, defScope s_is_lot_of, [], []⟩
def D_bits : He.DefD := ⟨("bits", none), "bits", "bits", defArgs s_bits, defBody s_bits, defScope s_bits, [], []⟩
def D_is_screen : He.DefD := ⟨("is_screen", none), "is_screen", "is_screen", defArgs s_is_screen, defBody s_is_screen, defScope s_is_screen, [], []⟩
def D_is_least_screen : He.DefD := ⟨("is_least_screen", none), "is_least_screen", "is_least_screen", defArgs s_is_least_screen, defBody s_is_least_screen, defScope s_is_least_screen, [], []⟩
def D_lot_of : He.DefD := ⟨("lot_of", none), "lot_of", "lot_of", defArgs s_lot_of, defBody s_lot_of, defScope s_lot_of, [], []⟩
def D_least_screens : He.DefD := ⟨("least_screens", none), "least_screens", "least_screens", defArgs s_least_screens, defBody s_least_screens, defScope s_least_screens, [], []⟩
def D_near_in : He.DefD := ⟨("near_in", none), "near_in", "near_in", defArgs s_near_in, defBody s_near_in, defScope s_near_in, [], []⟩
def D_screen_near : He.DefD := ⟨("screen_near", none), "screen_near", "screen_near", defArgs s_screen_near, defBody s_screen_near, defScope s_screen_near, [], []⟩
def D__law_screens : He.DefD := ⟨("_law_screens", none), "_law_screens", "_law_screens", defArgs s__law_screens, defBody s__law_screens, defScope s__law_screens, [], []⟩
def D_are_people : He.DefD := ⟨("are_people", none), "are_people", "are_people", defArgs s_are_people, defBody s_are_people, defScope s_are_people, [], []⟩
def D_is_row_of_all : He.DefD := ⟨("is_row_of_all", none), "is_row_of_all", "is_row_of_all", defArgs s_is_row_of_all, defBody s_is_row_of_all, defScope s_is_row_of_all, [], []⟩
def D_later_in : He.DefD := ⟨("later_in", none), "later_in", "later_in", defArgs s_later_in, defBody s_later_in, defScope s_later_in, [], []⟩
def D_gaps_in : He.DefD := ⟨("gaps_in", none), "gaps_in", "gaps_in", defArgs s_gaps_in, defBody s_gaps_in, defScope s_gaps_in, [], []⟩
def D_is_sequence_in : He.DefD := ⟨("is_sequence_in", none), "is_sequence_in", "is_sequence_in", defArgs s_is_sequence_in, defBody s_is_sequence_in, defScope s_is_sequence_in, [], []⟩
def D_is_ring_in : He.DefD := ⟨("is_ring_in", none), "is_ring_in", "is_ring_in", defArgs s_is_ring_in, defBody s_is_ring_in, defScope s_is_ring_in, [], []⟩
def D_is_ring_paper : He.DefD := ⟨("is_ring_paper", none), "is_ring_paper", "is_ring_paper", defArgs s_is_ring_paper, defBody s_is_ring_paper, defScope s_is_ring_paper, [], []⟩
def D_is_ring : He.DefD := ⟨("is_ring", none), "is_ring", "is_ring", defArgs s_is_ring, defBody s_is_ring, defScope s_is_ring, [], []⟩
def D_is_sequence : He.DefD := ⟨("is_sequence", none), "is_sequence", "is_sequence", defArgs s_is_sequence, defBody s_is_sequence, defScope s_is_sequence, [], []⟩
def D__law_draw : He.DefD := ⟨("_law_draw", none), "_law_draw", "_law_draw", defArgs s__law_draw, defBody s__law_draw, defScope s__law_draw, [], []⟩
def D__law_one_of : He.DefD := ⟨("_law_one_of", none), "_law_one_of", "_law_one_of", defArgs s__law_one_of, defBody s__law_one_of, defScope s__law_one_of, [], []⟩
def D_all_know : He.DefD := ⟨("all_know", none), "all_know", "all_know", defArgs s_all_know, defBody s_all_know, defScope s_all_know, [], []⟩
def D_is_simple_in : He.DefD := ⟨("is_simple_in", none), "is_simple_in", "is_simple_in", defArgs s_is_simple_in, defBody s_is_simple_in, defScope s_is_simple_in, [], []⟩
def D_taken_off : He.DefD := ⟨("taken_off", none), "taken_off", "taken_off", defArgs s_taken_off, defBody s_taken_off, defScope s_taken_off, [], []⟩
def D_sequence_in : He.DefD := ⟨("sequence_in", none), "sequence_in", "sequence_in", defArgs s_sequence_in, defBody s_sequence_in, defScope s_sequence_in, [], []⟩
def D_has_ring : He.DefD := ⟨("has_ring", none), "has_ring", "has_ring", defArgs s_has_ring, defBody s_has_ring, defScope s_has_ring, [], []⟩
def D_way_in : He.DefD := ⟨("way_in", none), "way_in", "way_in", defArgs s_way_in, defBody s_way_in, defScope s_way_in, [], []⟩
def D_ring_around : He.DefD := ⟨("ring_around", none), "ring_around", "ring_around", defArgs s_ring_around, defBody s_ring_around, defScope s_ring_around, [], []⟩
def D_ring_in : He.DefD := ⟨("ring_in", none), "ring_in", "ring_in", defArgs s_ring_in, defBody s_ring_in, defScope s_ring_in, [], []⟩
def D_ring_paper : He.DefD := ⟨("ring_paper", none), "ring_paper", "ring_paper", defArgs s_ring_paper, defBody s_ring_paper, defScope s_ring_paper, [], []⟩
def D_simple_people : He.DefD := ⟨("simple_people", none), "simple_people", "simple_people", defArgs s_simple_people, defBody s_simple_people, defScope s_simple_people, [], []⟩
def D_can_begin : He.DefD := ⟨("can_begin", none), "can_begin", "can_begin", defArgs s_can_begin, defBody s_can_begin, defScope s_can_begin, [], []⟩
def D_can_go_on : He.DefD := ⟨("can_go_on", none), "can_go_on", "can_go_on", defArgs s_can_go_on, defBody s_can_go_on, defScope s_can_go_on, [], []⟩
def D__law_plain : He.DefD := ⟨("_law_plain", none), "_law_plain", "_law_plain", defArgs s__law_plain, defBody s__law_plain, defScope s__law_plain, [], []⟩
def D_require_row : He.DefD := ⟨("require_row", none), "require_row", "require_row", defArgs s_require_row, defBody s_require_row, defScope s_require_row, [], []⟩
def D_gaps : He.DefD := ⟨("gaps", none), "gaps", "gaps", defArgs s_gaps, defBody s_gaps, defScope s_gaps, [], []⟩
def D_patched : He.DefD := ⟨("patched", none), "patched", "patched", defArgs s_patched, defBody s_patched, defScope s_patched, [], []⟩
def D_later_lots : He.DefD := ⟨("later_lots", none), "later_lots", "later_lots", defArgs s_later_lots, defBody s_later_lots, defScope s_later_lots, [], []⟩
def D__law_rows : He.DefD := ⟨("_law_rows", none), "_law_rows", "_law_rows", defArgs s__law_rows, defBody s__law_rows, defScope s__law_rows, [], []⟩
def D__law_right : He.DefD := ⟨("_law_right", none), "_law_right", "_law_right", defArgs s__law_right, defBody s__law_right, defScope s__law_right, [], []⟩
def D_law : He.DefD := ⟨("law", none), "law", "law", defArgs s_law, defBody s_law, defScope s_law, [], []⟩
def E_10 : ErD := ⟨10, "InvalidNumber.__init__", clsS (topS 7) 0⟩
def E_13 : ErD := ⟨13, "TooMany.__init__", clsS (topS 8) 0⟩
def E_14 : ErD := ⟨14, "Refused.__init__", clsS (topS 9) 0⟩
abbrev PROG : Program := PySem.Challenge.rw_whomet_k15_errors_of_rings_and_screens.prog
abbrev pf : PySem.Str := PROG.main.file
theorem T_10 : ErT PROG pf E_10 := ⟨by decide, ⟨_, _, rfl⟩, ⟨_, _, _, _, _, _, _, _, _, _, rfl, fun L fI cda cc => ⟨_, rfl⟩⟩, rfl, rfl, by kernel_rfl⟩
theorem N_10 : Sup.FName (cfn 10) := ⟨by decide, by decide, by decide, by decide, by decide, fun _ _ _ _ _ _ _ _ _ _ _ _ _ => rfl⟩
theorem T_13 : ErT PROG pf E_13 := ⟨by decide, ⟨_, _, rfl⟩, ⟨_, _, _, _, _, _, _, _, _, _, rfl, fun L fI cda cc => ⟨_, rfl⟩⟩, rfl, rfl, by kernel_rfl⟩
theorem N_13 : Sup.FName (cfn 13) := ⟨by decide, by decide, by decide, by decide, by decide, fun _ _ _ _ _ _ _ _ _ _ _ _ _ => rfl⟩
theorem T_14 : ErT PROG pf E_14 := ⟨by decide, ⟨_, _, rfl⟩, ⟨_, _, _, _, _, _, _, _, _, _, rfl, fun L fI cda cc => ⟨_, rfl⟩⟩, rfl, rfl, by kernel_rfl⟩
theorem N_14 : Sup.FName (cfn 14) := ⟨by decide, by decide, by decide, by decide, by decide, fun _ _ _ _ _ _ _ _ _ _ _ _ _ => rfl⟩
def fnl : List He.DefD := ([D__law_bag, D_is_whole, D_is_within, D_is_pair_of, D_are_meetings, D_Table, D__law_met, D_require_table, D_require_people, D_rows_in, D_require_screened, D_people_in, D_reached, D_is_screen_in, D_is_person, D_is_lot_of, D_bits, D_is_screen, D_is_least_screen, D_lot_of, D_least_screens, D_near_in, D_screen_near, D__law_screens, D_are_people, D_is_row_of_all, D_later_in, D_gaps_in, D_is_sequence_in, D_is_ring_in] : List He.DefD) ++ ([D_is_ring_paper, D_is_ring, D_is_sequence, D__law_draw, D__law_one_of, D_all_know, D_is_simple_in, D_taken_off, D_sequence_in, D_has_ring, D_way_in, D_ring_around, D_ring_in, D_ring_paper, D_simple_people, D_can_begin, D_can_go_on, D__law_plain, D_require_row, D_gaps, D_patched, D_later_lots, D__law_rows, D__law_right, D_law] : List He.DefD)
def fal : List He.Fa := ([.int "GREAT" 1000000000000000000000000000000000000000000000000000000000000, .int "MAX_PEOPLE" 20, .int "MOST_SCREENED" 10, .str "RING" "ring", .str "SEQUENCE" "sequence", .glo "InvalidTable", .glo "InvalidNumber", .glo "TooMany", .glo "Refused", .glo "InvalidVisits", .glo "InvalidLot", .glo "InvalidOrder", .glo "InvalidOperation", .free "abs", .free "all", .free "any", .free "bool", .free "enumerate", .free "int", .free "isinstance", .free "len", .free "max", .free "min", .free "range", .free "repr", .free "set", .free "sorted", .free "sum", .free "tuple", .free "zip"] : List He.Fa) ++ ([.mkr "Table", .exc "InvalidTable", .exc "InvalidLot", .exc "InvalidOrder", .exc "InvalidOperation", .glo "_law_bag", .glo "is_whole", .glo "is_within", .glo "is_pair_of", .glo "are_meetings", .glo "_law_met", .glo "require_table", .glo "require_people", .glo "rows_in", .glo "require_screened", .glo "people_in", .glo "reached", .glo "is_screen_in", .glo "is_person", .glo "is_lot_of", .glo "bits", .glo "is_screen", .glo "is_least_screen", .glo "lot_of", .glo "least_screens", .glo "near_in", .glo "screen_near", .glo "_law_screens", .glo "are_people", .glo "is_row_of_all"] : List He.Fa) ++ ([.glo "later_in", .glo "gaps_in", .glo "is_sequence_in", .glo "is_ring_in", .glo "is_ring_paper", .glo "is_ring", .glo "is_sequence", .glo "_law_draw", .glo "_law_one_of", .glo "all_know", .glo "is_simple_in", .glo "taken_off", .glo "sequence_in", .glo "has_ring", .glo "way_in", .glo "ring_around", .glo "ring_in", .glo "ring_paper", .glo "simple_people", .glo "can_begin", .glo "can_go_on", .glo "_law_plain", .glo "require_row", .glo "gaps", .glo "patched", .glo "later_lots", .glo "_law_rows", .glo "_law_right", .glo "law"] : List He.Fa)
def esl : List ErD := ([E_10, E_13, E_14] : List ErD)
def tfl : List PySem.Str := (["_law_screens", "_law_plain", "_law_rows"] : List PySem.Str)
def nms : List PySem.Str := (["MeetError", "InvalidTable", "InvalidVisits", "InvalidLot", "InvalidOrder", "InvalidOperation", "InvalidNumber", "TooMany", "Refused", "GREAT", "is_whole", "is_within", "is_person", "is_lot_of", "bits", "lot_of", "MAX_PEOPLE", "is_pair_of", "are_meetings", "Table", "rows_in", "require_table", "require_people", "MOST_SCREENED", "SEQUENCE", "RING", "people_in", "all_know", "is_simple_in", "taken_off"] : List PySem.Str) ++ (["sequence_in", "way_in", "ring_around", "ring_in", "are_people", "is_ring_in", "is_row_of_all", "later_in", "gaps_in", "is_sequence_in", "can_begin", "reached", "is_screen_in", "near_in", "is_least_screen", "require_row", "require_screened", "has_ring", "is_ring", "is_sequence", "ring_paper", "is_ring_paper", "simple_people", "can_go_on", "gaps", "patched", "later_lots", "is_screen", "least_screens", "screen_near"] : List PySem.Str) ++ (["_law_bag", "_law_draw", "_law_one_of", "_law_mixed", "_law_met", "_law_plain", "_law_rows", "_law_screens", "_law_right"] : List PySem.Str)
def exB (K : PySem.W.Frag) : Bool := (([1, 4, 5, 8, 10, 13] : List Nat).all fun c => ([1, 3, 4, 5, 8, 10, 13, 14] : List Nat).all fun k => decide (PySem.W.exmOne K (.ref (He.ga K (ecn c))) (.ref (He.ga K (ecn k))) = some (subC c k))) && (eB pf K 10 "InvalidNumber.__init__" && (eB pf K 13 "TooMany.__init__" && (eB pf K 14 "Refused.__init__" && (oB K 0 && (slB K 0 "own_meetings" 0 && (slB K 0 "own_size" 1 && (decide ((tfl.map (tA K)).Nodup))))))))
abbrev R : PySem.W.OpenRow := PySem.W.OpenLaw.row PySem.Challenge.rw_whomet_k15_errors_of_rings_and_screens
abbrev hk : PySem.W.Hook := hookE 5 fal fnl esl tfl exB
def ob (s : PySem.W.SharedT) : AlE := obsE 5 fal fnl esl tfl exB (HandSHeadRun.getT s)
theorem ob_eq (s : PySem.W.SharedT) : ob s = hk.obs s.abs := obsE_eq (HandSHeadRun.getT_eq s)
theorem run_0 (w : World) (os : OsState) : (endR R 30000 w os).map (fun s => PySem.W.staticsOk (importedModules R.prog.main.body) (PySem.W.boot_heap w.params) s.abs.heap && PySem.W.namesBound R.prog s.abs.heap && PySem.W.gensDone s.abs) = some true := by kernel_rfl
theorem run_1 (w : World) (os : OsState) : (endR R 30000 w os).map (fun s => PySem.W.laidKept (PySem.W.boot_heap w.params) s.abs.heap) = some true := by kernel_rfl
theorem run_2 (w : World) (os : OsState) : (endR R 30000 w os).map (fun s => HandSHeadRun.seenQ (PySem.W.view R.prog [74]) nms (importedModules R.prog.main.body) (fun s => PySem.W.xlAt (PySem.W.view R.prog [74]) [] s && PySem.W.recOk R.toRowW.records s) s.abs) = some (PySem.W.openGood (PySem.W.view R.prog [74]) nms) := by kernel_rfl
theorem run_3a (w : World) (os : OsState) : (endR R 30000 w os).map (fun s => obsE 5 fal [] [] [] (fun _ => true) (HandSHeadRun.getT s)) = some (valE [] []) := by kernel_rfl
theorem run_3b (w : World) (os : OsState) : (endR R 30000 w os).map (fun s => obsE 5 [] fnl [] [] (fun _ => true) (HandSHeadRun.getT s)) = some (valE fnl []) := by kernel_rfl
theorem run_3c (w : World) (os : OsState) : (endR R 30000 w os).map (fun s => obsE 5 [] [] esl tfl exB (HandSHeadRun.getT s)) = some (valE [] esl) := by kernel_rfl
theorem run_3 (w : World) (os : OsState) : (endR R 30000 w os).map ob = some (hk.val w) := ob_three (run_3a w) (run_3b w) (run_3c w) os
theorem run (w : World) : HandSHeadRun.RunEq R (PySem.W.view R.prog [74]) hk ob 30000 nms w := run_four (run_0 w) (run_1 w) (run_2 w) (run_3 w)
theorem mg_of {G : Gd} {h h2 : Heap} (hP : G.P = PROG) (hc : ∀ c, G.cad c = He.ga G.K (ecn c)) (X : G.K.In h) (N : h.Ns mainGlobals G.mg) (s : SaysE fal fnl esl tfl exB h2 G.K) (TB : ∀ x ∈ tfl, LamX.TabB G.base G.mg (He.codeOf G.K (x, none)) (tA G.K x)) : Mg G := by
  have c := s.d
  have m := s.more
  unfold exB at m
  simp only [Bool.and_eq_true] at m
  obtain ⟨m_xm, m_e10, m_e13, m_e14, m_o0, m_sown_meetings, m_sown_size, m_nd⟩ := m
  have es := s.e
  simp only [esl, List.map_cons, List.map_nil, List.cons.injEq, and_true] at es
  obtain ⟨v_10, v_13, v_14⟩ := es
  have X_10 := xf_ok (e := E_10) (hc _) X N m_e10 v_10 (by rw [hP]; exact T_10) N_10
  have X_13 := xf_ok (e := E_13) (hc _) X N m_e13 v_13 (by rw [hP]; exact T_13) N_13
  have X_14 := xf_ok (e := E_14) (hc _) X N m_e14 v_14 (by rw [hP]; exact T_14) N_14
  exact {
    c_GREAT := He.int_ok X N (c.fact 0 (f := .int "GREAT" 1000000000000000000000000000000000000000000000000000000000000) rfl)
    c_MAX_PEOPLE := He.int_ok X N (c.fact 1 (f := .int "MAX_PEOPLE" 20) rfl)
    c_MOST_SCREENED := He.int_ok X N (c.fact 2 (f := .int "MOST_SCREENED" 10) rfl)
    c_RING := He.str_ok X N (c.fact 3 (f := .str "RING" "ring") rfl)
    c_SEQUENCE := He.str_ok X N (c.fact 4 (f := .str "SEQUENCE" "sequence") rfl)
    en_1 := by rw [hc]; exact He.glo_ok X N (c.fact 5 (f := .glo "InvalidTable") rfl)
    en_10 := by rw [hc]; exact He.glo_ok X N (c.fact 6 (f := .glo "InvalidNumber") rfl)
    en_13 := by rw [hc]; exact He.glo_ok X N (c.fact 7 (f := .glo "TooMany") rfl)
    en_14 := by rw [hc]; exact He.glo_ok X N (c.fact 8 (f := .glo "Refused") rfl)
    en_3 := by rw [hc]; exact He.glo_ok X N (c.fact 9 (f := .glo "InvalidVisits") rfl)
    en_4 := by rw [hc]; exact He.glo_ok X N (c.fact 10 (f := .glo "InvalidLot") rfl)
    en_5 := by rw [hc]; exact He.glo_ok X N (c.fact 11 (f := .glo "InvalidOrder") rfl)
    en_8 := by rw [hc]; exact He.glo_ok X N (c.fact 12 (f := .glo "InvalidOperation") rfl)
    b_abs := He.free_ok X N (c.fact 13 (f := .free "abs") rfl)
    b_all := He.free_ok X N (c.fact 14 (f := .free "all") rfl)
    b_any := He.free_ok X N (c.fact 15 (f := .free "any") rfl)
    b_bool := He.free_ok X N (c.fact 16 (f := .free "bool") rfl)
    b_enumerate := He.free_ok X N (c.fact 17 (f := .free "enumerate") rfl)
    b_int := He.free_ok X N (c.fact 18 (f := .free "int") rfl)
    b_isinstance := He.free_ok X N (c.fact 19 (f := .free "isinstance") rfl)
    b_len := He.free_ok X N (c.fact 20 (f := .free "len") rfl)
    b_max := He.free_ok X N (c.fact 21 (f := .free "max") rfl)
    b_min := He.free_ok X N (c.fact 22 (f := .free "min") rfl)
    b_range := He.free_ok X N (c.fact 23 (f := .free "range") rfl)
    b_repr := He.free_ok X N (c.fact 24 (f := .free "repr") rfl)
    b_set := He.free_ok X N (c.fact 25 (f := .free "set") rfl)
    b_sorted := He.free_ok X N (c.fact 26 (f := .free "sorted") rfl)
    b_sum := He.free_ok X N (c.fact 27 (f := .free "sum") rfl)
    b_tuple := He.free_ok X N (c.fact 28 (f := .free "tuple") rfl)
    b_zip := He.free_ok X N (c.fact 29 (f := .free "zip") rfl)
    mk_0 := mk_ok (c.fact 30 (f := .mkr "Table") rfl)
    oc_0 := oB_ok m_o0 fun e => PySem.W.mg_of X N e
    sl_own_meetings := slB_ok m_sown_meetings
    sl_own_size := slB_ok m_sown_size
    xe_1 := xcls_ok (hc _) X N (c.fact 31 (f := .exc "InvalidTable") rfl) (c.fact 5 (f := .glo "InvalidTable") rfl)
    xe_4 := xcls_ok (hc _) X N (c.fact 32 (f := .exc "InvalidLot") rfl) (c.fact 10 (f := .glo "InvalidLot") rfl)
    xe_5 := xcls_ok (hc _) X N (c.fact 33 (f := .exc "InvalidOrder") rfl) (c.fact 11 (f := .glo "InvalidOrder") rfl)
    xe_8 := xcls_ok (hc _) X N (c.fact 34 (f := .exc "InvalidOperation") rfl) (c.fact 12 (f := .glo "InvalidOperation") rfl)
    xf_10 := X_10.1
    xf_13 := X_13.1
    xfc_10 := X_10.2.1
    no_10 := X_10.2.2
    xfc_13 := X_13.2.1
    no_13 := X_13.2.2
    xfc_14 := X_14.2.1
    no_14 := X_14.2.2
    g__law_bag := He.glo_ok X N (c.fact 35 (f := .glo "_law_bag") rfl)
    d__law_bag := c.def_ 0 (d := D__law_bag) rfl
    g_is_whole := He.glo_ok X N (c.fact 36 (f := .glo "is_whole") rfl)
    d_is_whole := c.def_ 1 (d := D_is_whole) rfl
    g_is_within := He.glo_ok X N (c.fact 37 (f := .glo "is_within") rfl)
    d_is_within := c.def_ 2 (d := D_is_within) rfl
    g_is_pair_of := He.glo_ok X N (c.fact 38 (f := .glo "is_pair_of") rfl)
    d_is_pair_of := c.def_ 3 (d := D_is_pair_of) rfl
    g_are_meetings := He.glo_ok X N (c.fact 39 (f := .glo "are_meetings") rfl)
    d_are_meetings := c.def_ 4 (d := D_are_meetings) rfl
    i_Table := c.def_ 5 (d := D_Table) rfl
    g__law_met := He.glo_ok X N (c.fact 40 (f := .glo "_law_met") rfl)
    d__law_met := c.def_ 6 (d := D__law_met) rfl
    g_require_table := He.glo_ok X N (c.fact 41 (f := .glo "require_table") rfl)
    d_require_table := c.def_ 7 (d := D_require_table) rfl
    g_require_people := He.glo_ok X N (c.fact 42 (f := .glo "require_people") rfl)
    d_require_people := c.def_ 8 (d := D_require_people) rfl
    g_rows_in := He.glo_ok X N (c.fact 43 (f := .glo "rows_in") rfl)
    d_rows_in := c.def_ 9 (d := D_rows_in) rfl
    g_require_screened := He.glo_ok X N (c.fact 44 (f := .glo "require_screened") rfl)
    d_require_screened := c.def_ 10 (d := D_require_screened) rfl
    g_people_in := He.glo_ok X N (c.fact 45 (f := .glo "people_in") rfl)
    d_people_in := c.def_ 11 (d := D_people_in) rfl
    g_reached := He.glo_ok X N (c.fact 46 (f := .glo "reached") rfl)
    d_reached := c.def_ 12 (d := D_reached) rfl
    g_is_screen_in := He.glo_ok X N (c.fact 47 (f := .glo "is_screen_in") rfl)
    d_is_screen_in := c.def_ 13 (d := D_is_screen_in) rfl
    g_is_person := He.glo_ok X N (c.fact 48 (f := .glo "is_person") rfl)
    d_is_person := c.def_ 14 (d := D_is_person) rfl
    g_is_lot_of := He.glo_ok X N (c.fact 49 (f := .glo "is_lot_of") rfl)
    d_is_lot_of := c.def_ 15 (d := D_is_lot_of) rfl
    g_bits := He.glo_ok X N (c.fact 50 (f := .glo "bits") rfl)
    d_bits := c.def_ 16 (d := D_bits) rfl
    g_is_screen := He.glo_ok X N (c.fact 51 (f := .glo "is_screen") rfl)
    d_is_screen := c.def_ 17 (d := D_is_screen) rfl
    g_is_least_screen := He.glo_ok X N (c.fact 52 (f := .glo "is_least_screen") rfl)
    d_is_least_screen := c.def_ 18 (d := D_is_least_screen) rfl
    g_lot_of := He.glo_ok X N (c.fact 53 (f := .glo "lot_of") rfl)
    d_lot_of := c.def_ 19 (d := D_lot_of) rfl
    g_least_screens := He.glo_ok X N (c.fact 54 (f := .glo "least_screens") rfl)
    d_least_screens := c.def_ 20 (d := D_least_screens) rfl
    g_near_in := He.glo_ok X N (c.fact 55 (f := .glo "near_in") rfl)
    d_near_in := c.def_ 21 (d := D_near_in) rfl
    g_screen_near := He.glo_ok X N (c.fact 56 (f := .glo "screen_near") rfl)
    d_screen_near := c.def_ 22 (d := D_screen_near) rfl
    g__law_screens := He.glo_ok X N (c.fact 57 (f := .glo "_law_screens") rfl)
    d__law_screens := c.def_ 23 (d := D__law_screens) rfl
    g_are_people := He.glo_ok X N (c.fact 58 (f := .glo "are_people") rfl)
    d_are_people := c.def_ 24 (d := D_are_people) rfl
    g_is_row_of_all := He.glo_ok X N (c.fact 59 (f := .glo "is_row_of_all") rfl)
    d_is_row_of_all := c.def_ 25 (d := D_is_row_of_all) rfl
    g_later_in := He.glo_ok X N (c.fact 60 (f := .glo "later_in") rfl)
    d_later_in := c.def_ 26 (d := D_later_in) rfl
    g_gaps_in := He.glo_ok X N (c.fact 61 (f := .glo "gaps_in") rfl)
    d_gaps_in := c.def_ 27 (d := D_gaps_in) rfl
    g_is_sequence_in := He.glo_ok X N (c.fact 62 (f := .glo "is_sequence_in") rfl)
    d_is_sequence_in := c.def_ 28 (d := D_is_sequence_in) rfl
    g_is_ring_in := He.glo_ok X N (c.fact 63 (f := .glo "is_ring_in") rfl)
    d_is_ring_in := c.def_ 29 (d := D_is_ring_in) rfl
    g_is_ring_paper := He.glo_ok X N (c.fact 64 (f := .glo "is_ring_paper") rfl)
    d_is_ring_paper := c.def_ 30 (d := D_is_ring_paper) rfl
    g_is_ring := He.glo_ok X N (c.fact 65 (f := .glo "is_ring") rfl)
    d_is_ring := c.def_ 31 (d := D_is_ring) rfl
    g_is_sequence := He.glo_ok X N (c.fact 66 (f := .glo "is_sequence") rfl)
    d_is_sequence := c.def_ 32 (d := D_is_sequence) rfl
    g__law_draw := He.glo_ok X N (c.fact 67 (f := .glo "_law_draw") rfl)
    d__law_draw := c.def_ 33 (d := D__law_draw) rfl
    g__law_one_of := He.glo_ok X N (c.fact 68 (f := .glo "_law_one_of") rfl)
    d__law_one_of := c.def_ 34 (d := D__law_one_of) rfl
    g_all_know := He.glo_ok X N (c.fact 69 (f := .glo "all_know") rfl)
    d_all_know := c.def_ 35 (d := D_all_know) rfl
    g_is_simple_in := He.glo_ok X N (c.fact 70 (f := .glo "is_simple_in") rfl)
    d_is_simple_in := c.def_ 36 (d := D_is_simple_in) rfl
    g_taken_off := He.glo_ok X N (c.fact 71 (f := .glo "taken_off") rfl)
    d_taken_off := c.def_ 37 (d := D_taken_off) rfl
    g_sequence_in := He.glo_ok X N (c.fact 72 (f := .glo "sequence_in") rfl)
    d_sequence_in := c.def_ 38 (d := D_sequence_in) rfl
    g_has_ring := He.glo_ok X N (c.fact 73 (f := .glo "has_ring") rfl)
    d_has_ring := c.def_ 39 (d := D_has_ring) rfl
    g_way_in := He.glo_ok X N (c.fact 74 (f := .glo "way_in") rfl)
    d_way_in := c.def_ 40 (d := D_way_in) rfl
    g_ring_around := He.glo_ok X N (c.fact 75 (f := .glo "ring_around") rfl)
    d_ring_around := c.def_ 41 (d := D_ring_around) rfl
    g_ring_in := He.glo_ok X N (c.fact 76 (f := .glo "ring_in") rfl)
    d_ring_in := c.def_ 42 (d := D_ring_in) rfl
    g_ring_paper := He.glo_ok X N (c.fact 77 (f := .glo "ring_paper") rfl)
    d_ring_paper := c.def_ 43 (d := D_ring_paper) rfl
    g_simple_people := He.glo_ok X N (c.fact 78 (f := .glo "simple_people") rfl)
    d_simple_people := c.def_ 44 (d := D_simple_people) rfl
    g_can_begin := He.glo_ok X N (c.fact 79 (f := .glo "can_begin") rfl)
    d_can_begin := c.def_ 45 (d := D_can_begin) rfl
    g_can_go_on := He.glo_ok X N (c.fact 80 (f := .glo "can_go_on") rfl)
    d_can_go_on := c.def_ 46 (d := D_can_go_on) rfl
    g__law_plain := He.glo_ok X N (c.fact 81 (f := .glo "_law_plain") rfl)
    d__law_plain := c.def_ 47 (d := D__law_plain) rfl
    g_require_row := He.glo_ok X N (c.fact 82 (f := .glo "require_row") rfl)
    d_require_row := c.def_ 48 (d := D_require_row) rfl
    g_gaps := He.glo_ok X N (c.fact 83 (f := .glo "gaps") rfl)
    d_gaps := c.def_ 49 (d := D_gaps) rfl
    g_patched := He.glo_ok X N (c.fact 84 (f := .glo "patched") rfl)
    d_patched := c.def_ 50 (d := D_patched) rfl
    g_later_lots := He.glo_ok X N (c.fact 85 (f := .glo "later_lots") rfl)
    d_later_lots := c.def_ 51 (d := D_later_lots) rfl
    g__law_rows := He.glo_ok X N (c.fact 86 (f := .glo "_law_rows") rfl)
    d__law_rows := c.def_ 52 (d := D__law_rows) rfl
    g__law_right := He.glo_ok X N (c.fact 87 (f := .glo "_law_right") rfl)
    d__law_right := c.def_ 53 (d := D__law_right) rfl
    d_law := c.def_ 54 (d := D_law) rfl
    xm := exm_ok hc m_xm
    t__law_screens := TB "_law_screens" (by decide)
    t__law_plain := TB "_law_plain" (by decide)
    t__law_rows := TB "_law_rows" (by decide) }
end Lk15
open PySem PySem.W PySem.Calls PyProof.Rows
theorem PySem.Challenge.cw_whomet_k15_errors_of_rings_and_screens_holds : PySem.Challenge.rw_whomet_k15_errors_of_rings_and_screens.Holds := by
  w_on; o_law
  refine HandSHeadRun.head_any (r := OpenLaw.row PySem.Challenge.rw_whomet_k15_errors_of_rings_and_screens) (q := view (OpenLaw.row PySem.Challenge.rw_whomet_k15_errors_of_rings_and_screens).prog [74]) (H := Lk15.hk) (ob := Lk15.ob) (M := 30000) (loose := Lk15.nms) (d := HandSHeadRun.topDef (OpenLaw.row PySem.Challenge.rw_whomet_k15_errors_of_rings_and_screens).prog 74) (kwd := []) Lk15.ob_eq
    (by kernel_rfl) (fun s => by kernel_rfl) Lk15.run (by kernel_rfl) (by kernel_rfl) (by kernel_rfl) (by rfl) (by first | assumption | decide +kernel) (by decide +kernel) ⟨rfl, rfl, rfl, rfl, rfl, by decide +kernel⟩ ?hw ?hc
  case hw => w_witness2
  case hc =>
    refine Dv.walk_T (l := PySem.Challenge.rw_whomet_k15_errors_of_rings_and_screens) (n := 63) (k := 12) (m := Lk15.d_law) (tf := Lk15.tfl) rfl (by decide) (by kernel_rfl) ⟨rfl, by decide, by decide⟩ Lk15.law_true ?F
    intro w mg fa h Y G hmg0
    obtain ⟨K, KX, c⟩ := Y
    have hmg : mg ("law" : PySem.Str) = some (.ref fa) := by
      have e : (HandSHeadRun.topDef (OpenLaw.row PySem.Challenge.rw_whomet_k15_errors_of_rings_and_screens).prog 74).name = ("law" : PySem.Str) := by kernel_rfl
      rw [← e]
      exact hmg0
    have hnd := c.more
    unfold Lk15.exB at hnd
    simp only [Bool.and_eq_true, decide_eq_true_eq] at hnd
    refine ⟨K, fun c => He.ga K (Dv.ecn c), KX, c.empty, c.out, hnd.2.2.2.2.2.2.2, fun x hx => PySem.W.codeHd_of_K KX (c.hd x hx), fun base hb hn TB => ?_⟩
    have e := hmg.symm.trans (He.glo_ok KX G (c.d.fact 88 (f := .glo "law") rfl))
    cases e
    exact Lk15.F_law (Lk15.mg_of (G := ⟨_, w, K, mg, base, fun c => He.ga K (Dv.ecn c)⟩) rfl (fun _ => rfl) KX G c TB)
