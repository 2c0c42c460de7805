import PyProof.Rows.All
import Wide.All
import OpenK.AllK
import Wide.FinOn
import KE.KStateDown
import Lean
import HandS.ForMost
import HandS.ForExc
import HandS.Defaults
import HandS.CallSlots
import HandS.Codes
import HandS.HeadHook2
import KE.LtData
import KE.SortData
import HandS.Flow
import HandS.Wide
import HandS.TupAny
import HandS.Style
import HandS.TupLe
import HandS.Deep
import HandS.ExcCtx
import HandS.StrMore
import HandS.StrSplit
import HandS.SortInts
import HandS.RaiseMore
import KE.KSortedM
import HandS.More
import HandS.IsInst
import HandS.Iter
import HandS.Comp
import HandS.SetFor
import HandS.Strs
import HandS.TryOnly
import HandS.SuiteRaise
import HandS.RaiseFrom
import HandS.Small
import HandS.Head0
import HandS.Head1
import HandS.Head2
import HandS.HeadEnd
import HandS.HeadHook1
import HandS.Text
import PySem.Challenge.RW_desksagree_k65_whole_names_of_files_ther
set_option Elab.async false
set_option linter.all false
section
set_option linter.all false
set_option maxRecDepth 100000
set_option maxHeartbeats 1000000
namespace Mn
open PySem PySem.Spec PyProof.Rows L2

/-! ### values, objects, heaps of the small semantics -/
inductive MV where
  | non | bl (b : Bool) | int (i : Int) | str (s : List Nat) | tup (xs : List MV) | ref (a : Nat) | sq (xs : List MV) | kt (xs : List MV)
/-- a key -/
inductive MK where
  | i (n : Int) | s (l : List Nat)
  deriving DecidableEq
inductive MO where
  | lst (xs : List MV) | dK (kvs : List (MK × MV)) | dT (kvs : List (List MK × MV)) | ins (c : Nat) (fs : List (Nat × MV))
abbrev MH := List MO
abbrev MSt := List (Option MV)
structure MX where
  cls : Nat
  fs : List (Nat × MV)
inductive Res (α : Type) where
  | ok (a : α) (h : MH)
  | ex (e : MX) (h : MH)
  | err
inductive SR where
  | nx (σ : MSt) (h : MH)
  | rt (v : MV) (h : MH)
  | bk (σ : MSt) (h : MH)
  | ct (σ : MSt) (h : MH)
  | ex (e : MX) (σ : MSt) (h : MH)
  | err
def Res.bind {α β : Type} (r : Res α) (f : α → MH → Res β) : Res β := match r with
  | .ok a h => f a h
  | .ex e h => .ex e h
  | .err => .err

/-- the classes' and the attributes' names by number -/
structure Nm where
  clss : List Str
  attrs : List Str
def Nm.cls (n : Nm) (c : Nat) : Str := n.clss.getD c Str.empty
def Nm.attr (n : Nm) (k : Nat) : Str := n.attrs.getD k Str.empty

/-! ### what stands for what -/
/-- a list that is only read -/
def SqF (K : PySem.W.Frag) (H : Hp) (a : Addr) (xs : List V) : Prop := (∃ o, H a = some (.frz o (.lst xs))) ∨
    ∃ (o : Obj) (its : Array Value) (n : Nat), K.lookup a = some o ∧ o.cls = .type "list" ∧ o.dict = none ∧ o.data = .seq its n ∧ its.size ≤ sizeLine ∧ Vals xs its.toList
theorem SqF.sq {K : PySem.W.Frag} {H : Hp} {a : Addr} {xs : List V} (h : SqF K H a xs) : SqL K H a xs := by
  rcases h with h | h
  · exact .inl (.inr h)
  · exact .inr h
/-- a tuple of the module -/
def KT (K : PySem.W.Frag) (a : Addr) (xs : List V) : Prop :=
    ∃ (o : Obj) (its : Array Value) (n : Nat), K.lookup a = some o ∧ o.cls = .type "tuple" ∧ o.data = .seq its n ∧ its.size ≤ sizeLine ∧ Vals xs its.toList
theorem KT.sq {K : PySem.W.Frag} {H : Hp} {a : Addr} {xs : List V} (h : KT K a xs) : SqT K H a xs := .inr h
section
variable (K : PySem.W.Frag) (nm : Nm) (H : Hp) (rho : List Addr)
mutual
def RV : MV → V → Prop
  | .non, v => v = .non
  | .bl b, v => v = .bl b
  | .int i, v => v = .int i
  | .str s, v => v = .str ⟨s.toArray⟩
  | .ref i, v => ∃ a, rho[i]? = some a ∧ v = .ref a
  | .tup xs, v => ∃ a vs, v = .ref a ∧ H a = some (.tup vs) ∧ RVs xs vs
  | .kt xs, v => ∃ a vs, v = .ref a ∧ KT K a vs ∧ RVs xs vs
  | .sq xs, v => ∃ a vs, v = .ref a ∧ SqF K H a vs ∧ RVs xs vs
def RVs : List MV → List V → Prop
  | [], vs => vs = []
  | x :: xs, vs => ∃ v r, vs = v :: r ∧ RV x v ∧ RVs xs r
end
def MK.k : MK → Key
  | .i n => .inl n
  | .s l => .inr ⟨l.toArray⟩
def RD {κ κ' : Type} (kf : κ → κ') : List (κ × MV) → List (κ' × V) → Prop
  | [], l => l = []
  | (k, x) :: r, l => ∃ v t, l = (kf k, v) :: t ∧ RV K H rho x v ∧ RD kf r t
def RF : List (Nat × MV) → List (Str × V) → Prop
  | [], l => l = []
  | (k, x) :: r, l => ∃ v t, l = (nm.attr k, v) :: t ∧ k < nm.attrs.length ∧ RV K H rho x v ∧ RF r t
def RO : MO → Addr → Prop
  | .lst xs, a => ∃ vs, H a = some (.lst vs) ∧ RVs K H rho xs vs
  | .dK kvs, a => ∃ l, H a = some (.dK l) ∧ RD K H rho MK.k kvs l
  | .dT kvs, a => ∃ l, H a = some (.dT l) ∧ RD K H rho (List.map MK.k) kvs l
  | .ins c fs, a => ∃ dx l, H a = some (.ins (He.ga K (nm.cls c)) dx l) ∧ RF K nm H rho fs l
end

/-- the small heap stands for the abstract one -/
structure Rel (K : PySem.W.Frag) (nm : Nm) (rho : List Addr) (h : MH) (H : Hp) : Prop where
  len : rho.length = h.length
  nd : rho.Nodup
  ob : ∀ (i : Nat) (o : MO) (a : Addr), h[i]? = some o → rho[i]? = some a → RO K nm H rho o a
  liv : ∀ (i : Nat) (a : Addr), rho[i]? = some a → ∃ o, H a = some o
/-- what comes behind: more addresses, the tuples stay -/
structure Ex (K : PySem.W.Frag) (rho : List Addr) (H : Hp) (rho' : List Addr) (H' : Hp) : Prop where
  pre : ∀ (i : Nat) (a : Addr), rho[i]? = some a → rho'[i]? = some a
  tup : ∀ a xs, H a = some (.tup xs) → H' a = some (.tup xs)
  frz : ∀ a xs, SqF K H a xs → SqF K H' a xs
theorem Ex.refl {K : PySem.W.Frag} {rho : List Addr} {H : Hp} : Ex K rho H rho H := ⟨fun _ _ h => h, fun _ _ h => h, fun _ _ h => h⟩
theorem Ex.trans {K : PySem.W.Frag} {r1 r2 r3 : List Addr} {H1 H2 H3 : Hp} (a : Ex K r1 H1 r2 H2) (b : Ex K r2 H2 r3 H3) : Ex K r1 H1 r3 H3 :=
  ⟨fun i x h => b.pre i x (a.pre i x h), fun x xs h => b.tup x xs (a.tup x xs h), fun x xs h => b.frz x xs (a.frz x xs h)⟩

section
variable {K : PySem.W.Frag} {nm : Nm} {rho rho' : List Addr} {H H' : Hp}
mutual
theorem RV.mono (e : Ex K rho H rho' H') : ∀ (x : MV) (v : V), RV K H rho x v → RV K H' rho' x v
  | .non, _, h => h
  | .bl _, _, h => h
  | .int _, _, h => h
  | .str _, _, h => h
  | .ref i, v, h => by
    unfold RV at h ⊢
    obtain ⟨a, h1, h2⟩ := h
    exact ⟨a, e.pre _ _ h1, h2⟩
  | .tup xs, v, h => by
    unfold RV at h ⊢
    obtain ⟨a, vs, h1, h2, h3⟩ := h
    exact ⟨a, vs, h1, e.tup _ _ h2, RVs.mono e xs vs h3⟩
  | .kt xs, v, h => by
    unfold RV at h ⊢
    obtain ⟨a, vs, h1, h2, h3⟩ := h
    exact ⟨a, vs, h1, h2, RVs.mono e xs vs h3⟩
  | .sq xs, v, h => by
    unfold RV at h ⊢
    obtain ⟨a, vs, h1, h2, h3⟩ := h
    exact ⟨a, vs, h1, e.frz _ _ h2, RVs.mono e xs vs h3⟩
theorem RVs.mono (e : Ex K rho H rho' H') : ∀ (xs : List MV) (vs : List V), RVs K H rho xs vs → RVs K H' rho' xs vs
  | [], _, h => h
  | x :: xs, vs, h => by
    unfold RVs at h ⊢
    obtain ⟨v, r, h1, h2, h3⟩ := h
    exact ⟨v, r, h1, RV.mono e x v h2, RVs.mono e xs r h3⟩
end
theorem RD.mono {κ κ' : Type} {kf : κ → κ'} (e : Ex K rho H rho' H') : ∀ (l : List (κ × MV)) (t : List (κ' × V)), RD K H rho kf l t → RD K H' rho' kf l t
  | [], _, h => h
  | (k, x) :: r, t, h => by
    unfold RD at h ⊢
    obtain ⟨v, t', h1, h3, h4⟩ := h
    exact ⟨v, t', h1, RV.mono e x v h3, RD.mono e r t' h4⟩
theorem RF.mono (e : Ex K rho H rho' H') : ∀ (l : List (Nat × MV)) (t : List (Str × V)), RF K nm H rho l t → RF K nm H' rho' l t
  | [], _, h => h
  | (k, x) :: r, t, h => by
    unfold RF at h ⊢
    obtain ⟨v, t', h1, h2, h3, h4⟩ := h
    exact ⟨v, t', h1, h2, RV.mono e x v h3, RF.mono e r t' h4⟩
/-- an object that itself stays -/
theorem RO.mono (e : Ex K rho H rho' H') {o : MO} {a : Addr} (h : RO K nm H rho o a) (hs : ∀ u, H a = some u → H' a = some u) : RO K nm H' rho' o a := by
  cases o with
  | lst xs =>
    obtain ⟨vs, h1, h2⟩ := h
    exact ⟨vs, hs _ h1, h2.mono e⟩
  | dK kvs =>
    obtain ⟨l, h1, h2⟩ := h
    exact ⟨l, hs _ h1, h2.mono e⟩
  | dT kvs =>
    obtain ⟨l, h1, h2⟩ := h
    exact ⟨l, hs _ h1, h2.mono e⟩
  | ins c fs =>
    obtain ⟨dx, l, h1, h2⟩ := h
    exact ⟨dx, l, hs _ h1, h2.mono e⟩

theorem SqF.keep {a p : Addr} {o : HO} {xs : List V} (h : SqF K H a xs) (hp : ∀ o xs, H a = some (.frz o xs) → a ≠ p) : SqF K (upd H p o) a xs := by
  rcases h with ⟨u, h⟩ | h
  · exact .inl ⟨u, by rw [upd_ne (hp _ _ h)]; exact h⟩
  · exact .inr h
/-- a new address -/
theorem Ex.fresh {p : Addr} {o : HO} (hp : H p = none) : Ex K rho H (rho ++ [p]) (upd H p o) :=
  ⟨fun i a h => by rw [List.getElem?_append_left (List.getElem?_eq_some_iff.mp h).1]; exact h, fun a xs h => (by rw [upd_ne (ne_of_none h hp)]; exact h), fun a xs h => SqF.keep h fun o xs e z => (by rw [z, hp] at e; cases e)⟩
theorem Ex.fresh0 {p : Addr} {o : HO} (hp : H p = none) : Ex K rho H rho (upd H p o) :=
  ⟨fun i a h => h, fun a xs h => (by rw [upd_ne (ne_of_none h hp)]; exact h), fun a xs h => SqF.keep h fun o xs e z => (by rw [z, hp] at e; cases e)⟩
/-- a mutable object changed -/
theorem Ex.write {p : Addr} {o : HO} (hp : Mut (H p)) : Ex K rho H rho (upd H p o) :=
  ⟨fun i a h => h, fun a xs h => (by rw [upd_ne (fun z => by rw [← z, h] at hp; exact hp)]; exact h), fun a xs h => SqF.keep h fun o xs e z => (by rw [← z, e] at hp; exact hp)⟩
/-! ### steps of the heap -/
/-- a new object -/
theorem Rel.alloc {p : Addr} {o : MO} {u : HO} {h : MH} (R : Rel K nm rho h H) (hp : H p = none) (hu : RO K nm (upd H p u) (rho ++ [p]) o p) : Rel K nm (rho ++ [p]) (h ++ [o]) (upd H p u) where
  len := by simp [R.len]
  nd := by
    refine List.nodup_append.mpr ⟨R.nd, by simp, fun a ha b hb z => ?_⟩
    obtain rfl : b = p := by simpa using hb
    obtain ⟨i, hi, e⟩ := List.getElem_of_mem ha
    obtain ⟨w, hw⟩ := R.liv i a (by rw [List.getElem?_eq_getElem hi, e])
    rw [z, hp] at hw
    cases hw
  ob := fun i o' a h1 h2 => by
    by_cases hi : i < h.length
    · rw [List.getElem?_append_left hi] at h1
      rw [List.getElem?_append_left (by rw [R.len]; exact hi)] at h2
      refine (R.ob i o' a h1 h2).mono (Ex.fresh hp) fun w hw => ?_
      rw [upd_ne (fun z => by rw [z, hp] at hw; cases hw)]
      exact hw
    · have hi' : i = h.length := by
        have := (List.getElem?_eq_some_iff.mp h1).1
        simp at this
        omega
      subst hi'
      rw [List.getElem?_append_right (Nat.le_refl _)] at h1
      rw [List.getElem?_append_right (by rw [R.len]; exact Nat.le_refl _), R.len] at h2
      simp at h1 h2
      subst h1 h2
      exact hu
  liv := fun i a h1 => by
    by_cases hi : i < rho.length
    · rw [List.getElem?_append_left hi] at h1
      obtain ⟨w, hw⟩ := R.liv i a h1
      exact ⟨w, by rw [upd_ne (fun z => by rw [z, hp] at hw; cases hw)]; exact hw⟩
    · rw [List.getElem?_append_right (by omega)] at h1
      have : i - rho.length = 0 := by
        have := (List.getElem?_eq_some_iff.mp h1).1
        simp at this
        omega
      rw [this] at h1
      simp at h1
      subst h1
      exact ⟨u, upd_same⟩
/-- something new that the small heap does not hold (a tuple) -/
theorem Rel.aside {p : Addr} {u : HO} {h : MH} (R : Rel K nm rho h H) (hp : H p = none) : Rel K nm rho h (upd H p u) where
  len := R.len
  nd := R.nd
  ob := fun i o' a h1 h2 => (R.ob i o' a h1 h2).mono (Ex.fresh0 hp) fun w hw => by
    rw [upd_ne (fun z => by rw [z, hp] at hw; cases hw)]
    exact hw
  liv := fun i a h1 => by
    obtain ⟨w, hw⟩ := R.liv i a h1
    exact ⟨w, by rw [upd_ne (fun z => by rw [z, hp] at hw; cases hw)]; exact hw⟩
/-- the object at i changed -/
theorem Rel.put {i : Nat} {a : Addr} {o : MO} {u : HO} {h : MH} (R : Rel K nm rho h H) (hi : rho[i]? = some a) (hm : Mut (H a)) (hu : RO K nm (upd H a u) rho o a) : Rel K nm rho (h.set i o) (upd H a u) where
  len := by simp [R.len]
  nd := R.nd
  ob := fun j o' b h1 h2 => by
    by_cases hj : j = i
    · subst hj
      rw [hi] at h2
      cases h2
      have hl : j < h.length := by rw [← R.len]; exact (List.getElem?_eq_some_iff.mp hi).1
      rw [List.getElem?_set_self hl] at h1
      cases h1
      exact hu
    · rw [List.getElem?_set_ne (Ne.symm hj)] at h1
      have hne : b ≠ a := fun z => by
        subst z
        have e1 := List.getElem?_eq_some_iff.mp h2
        have e2 := List.getElem?_eq_some_iff.mp hi
        exact hj ((List.getElem_inj R.nd).mp (e1.2.trans e2.2.symm))
      exact (R.ob j o' b h1 h2).mono (Ex.write hm) fun w hw => by rw [upd_ne hne]; exact hw
  liv := fun j b h1 => by
    obtain ⟨w, hw⟩ := R.liv j b h1
    by_cases z : b = a
    · subst z; exact ⟨u, upd_same⟩
    · exact ⟨w, by rw [upd_ne z]; exact hw⟩
theorem Rel.at {i : Nat} {o : MO} {h : MH} (R : Rel K nm rho h H) (hi : h[i]? = some o) : ∃ a, rho[i]? = some a ∧ RO K nm H rho o a := by
  have hl : i < rho.length := by rw [R.len]; exact (List.getElem?_eq_some_iff.mp hi).1
  exact ⟨rho[i], List.getElem?_eq_getElem hl, R.ob i o _ hi (List.getElem?_eq_getElem hl)⟩
end
/-- the slots -/
def RS (K : PySem.W.Frag) (H : Hp) (rho : List Addr) (sm : MSt) (σ : L2.St) : Prop :=
  sm.length = σ.length ∧ ∀ (i : Nat) (x : MV), sm[i]? = some (some x) → ∃ v, σ[i]? = some (some v) ∧ RV K H rho x v
theorem RS.mono {K : PySem.W.Frag} {rho rho' : List Addr} {H H' : Hp} {sm : MSt} {σ : L2.St} (e : Ex K rho H rho' H') (h : RS K H rho sm σ) : RS K H' rho' sm σ :=
  ⟨h.1, fun i x hx => by obtain ⟨v, h1, h2⟩ := h.2 i x hx; exact ⟨v, h1, h2.mono e⟩⟩
theorem RS.set {K : PySem.W.Frag} {rho : List Addr} {H : Hp} {sm : MSt} {σ : L2.St} {i : Nat} {x : MV} {v : V} (h : RS K H rho sm σ) (r : RV K H rho x v) : RS K H rho (sm.set i (some x)) (σ.set i (some v)) :=
  ⟨by simp [h.1], fun j y hy => by
    by_cases hj : j = i
    · subst hj
      by_cases hl : j < sm.length
      · rw [List.getElem?_set_self hl] at hy
        cases hy
        exact ⟨v, by rw [List.getElem?_set_self (by rw [← h.1]; exact hl)], r⟩
      · rw [List.getElem?_eq_none (by simpa using hl)] at hy
        cases hy
    · rw [List.getElem?_set_ne (Ne.symm hj)] at hy
      obtain ⟨w, h1, h2⟩ := h.2 j y hy
      exact ⟨w, by rw [List.getElem?_set_ne (Ne.symm hj)]; exact h1, h2⟩⟩
theorem RS.wipe1 {K : PySem.W.Frag} {rho : List Addr} {H : Hp} {sm : MSt} {σ : L2.St} {i : Nat} (h : RS K H rho sm σ) : RS K H rho (sm.set i none) (σ.set i none) :=
  ⟨by simp [h.1], fun j y hy => by
    by_cases hj : j = i
    · subst hj
      by_cases hl : j < sm.length
      · rw [List.getElem?_set_self hl] at hy
        cases hy
      · rw [List.getElem?_eq_none (by simpa using hl)] at hy
        cases hy
    · rw [List.getElem?_set_ne (Ne.symm hj)] at hy
      obtain ⟨w, h1, h2⟩ := h.2 j y hy
      exact ⟨w, by rw [List.getElem?_set_ne (Ne.symm hj)]; exact h1, h2⟩⟩
end Mn
end

section
set_option linter.all false
set_option maxRecDepth 100000
set_option maxHeartbeats 1000000
/-! the small semantics -/
namespace Mn
open PySem PySem.Spec L2

structure FI where
  d : He.DefD
  N : List Str
  cn : Bool
def FI.at_ (f : FI) : Str × Option Str := f.d.at_
def FI.ps (f : FI) : List Str := f.d.params.args.map (·.arg)
def FI.scope (f : FI) : Scope := f.d.scope
def FI.body (f : FI) : List Stmt := f.d.body
def dvM : He.Dv → MV
  | .bl b => .bl b
  | .int i => .int i
  | .str x => .str x.cps.toList
  | _ => .non
def FI.dfl (f : FI) : List MV := f.d.dfl.map dvM
structure GS where
  nm : Nm
  funs : List FI
  consts : List (Str × MV)
  /-- exception classes: the class, all that it is -/
  excs : List (Nat × List Nat)
  /-- the built-in names that the module leaves free -/
  tops : List Str
/-- where code stands: its names by slot, its scope; md: what is raised here is without a context -/
structure SC where
  N : List Str
  scope : Scope
  md : Bool
  lf : Bool
  tp : Bool
abbrev CallS := Nat → List MV → MH → Res MV

def lim : Nat := 16777216
def idx (x : Str) : List Str → Option Nat
  | [] => none
  | y :: r => if x = y then some 0 else (idx x r).map (· + 1)
def odd (x : Str) : Bool := decide (x = "__debug__") || (decide (x = "__classdict__") || decide (x = "__name__"))
def SC.slot (sc : SC) (x : Str) : Option Nat := if odd x then none else match sc.scope.names.lookup x with
  | some .local => idx x sc.N
  | some .cell => idx x sc.N
  | some .free => idx x sc.N
  | _ => none
def SC.gl (sc : SC) (x : Str) : Bool := if odd x then false else match sc.scope.names.lookup x with
  | some .globalImplicit => true
  | _ => false
def findFun (fs : List FI) (p : Str × Option Str) : Option Nat := match fs with
  | [] => none
  | f :: r => if f.at_ = p then some 0 else (findFun r p).map (· + 1)
def GS.cls? (g : GS) (x : Str) : Option Nat := idx x g.nm.clss
def GS.attr? (g : GS) (x : Str) : Option Nat := idx x g.nm.attrs
def GS.fun? (g : GS) (x : Str) : Option Nat := findFun g.funs (x, none)
def GS.meth? (g : GS) (c : Nat) (m : Str) : Option Nat := findFun g.funs (g.nm.cls c, some m)
/-- a class that is no exception's -/
def GS.own (g : GS) (c : Nat) : Bool := decide (c < g.nm.clss.length) && (g.excs.lookup c).isNone
def GS.bltn (g : GS) (x : Str) : Bool := g.tops.contains x
def tl (x : Str) : List Nat := x.cps.toList

/-! ### values -/
def truth (h : MH) : MV → Option Bool
  | .non => some false
  | .bl b => some b
  | .int i => some (i != 0)
  | .str s => if s.length ≤ lim then some (!s.isEmpty) else none
  | .tup xs => some (!xs.isEmpty)
  | .sq xs => some (!xs.isEmpty)
  | .kt xs => some (!xs.isEmpty)
  | .ref a => match h[a]? with
    | some (.lst xs) => some (!xs.isEmpty)
    | some (.dK kvs) => some (!kvs.isEmpty)
    | _ => none
def scalEq : MV → MV → Option Bool
  | .non, .non => some true
  | .int i, .int j => some (decide (i = j))
  | .bl i, .bl j => some (decide (i = j))
  | .str i, .str j => some (decide (i = j))
  | .non, .int _ => some false | .int _, .non => some false
  | .non, .bl _ => some false | .bl _, .non => some false
  | .non, .str _ => some false | .str _, .non => some false
  | .int _, .str _ => some false | .str _, .int _ => some false
  | .bl _, .str _ => some false | .str _, .bl _ => some false
  | _, _ => none
def mapO {α β : Type} (f : α → Option β) : List α → Option (List β)
  | [] => some []
  | x :: r => match f x with
    | some y => (mapO f r).map fun t => y :: t
    | none => none
/-- a value as data of any depth -/
def toD (h : MH) : Nat → MV → Option PyData
  | 0, _ => none
  | n + 1, x => match x with
    | .non => some .none
    | .bl b => some (.bool b)
    | .int i => some (.int i)
    | .str s => if s.all (fun c => decide (c < 1114112)) then some (.str ⟨s.toArray⟩) else none
    | .tup xs => (mapO (toD h n) xs).map .tuple
    | .kt xs => (mapO (toD h n) xs).map .tuple
    | .sq xs => (mapO (toD h n) xs).map .list
    | .ref a => match h[a]? with
      | some (.lst xs) => (mapO (toD h n) xs).map .list
      | _ => none
def eqM (h : MH) (x y : MV) : Option Bool := match scalEq x y with
  | some b => some b
  | none => match toD h 30 x, toD h 30 y with
    | some d, some e => some (PyData.eqv d e)
    | _, _ => none
def flatM : MV → Bool
  | .non => true | .bl _ => true | .int _ => true | .str _ => true | _ => false
def eqFl : MV → MV → Bool
  | .non, .non => true
  | .bl a, .bl b => a == b
  | .bl a, .int b => (if a then 1 else 0) == b
  | .int a, .bl b => a == (if b then 1 else 0)
  | .int a, .int b => a == b
  | .str a, .str b => decide (a = b)
  | _, _ => false
def inM (h : MH) (x y : MV) : Option Bool := match y with
  | .str t => match x with
    | .str [c] => some (decide (c ∈ t))
    | .str s => some (!(Builtin.Str.occurrences ⟨t.toArray⟩ ⟨s.toArray⟩ 0 t.length 1).isEmpty)
    | _ => none
  | .tup ys => if flatM x && ys.all flatM then some (ys.any fun z => eqFl z x) else none
  | .kt ys => if flatM x && ys.all flatM then some (ys.any fun z => eqFl z x) else none
  | .sq ys => if flatM x && ys.all flatM then some (ys.any fun z => eqFl z x) else none
  | .ref a => match h[a]? with
    | some (.lst ys) => if flatM x && ys.all flatM then some (ys.any fun z => eqFl z x) else
      match toD h 30 x, mapO (toD h 29) ys with
      | some d, some ds => some (ds.any fun z => PyData.eqv z d)
      | _, _ => none
    | _ => none
  | _ => none
def ltM (x y : MV) : Option Bool := match x, y with
  | .int i, .int j => some (decide (i < j))
  | .str s, .str t => some (decide (s < t))
  | _, _ => none
def isM (x y : MV) : Option Bool := match x, y with
  | .non, .non => some true
  | .bl a, .bl b => some (decide (a = b))
  | .bl _, .non => some false
  | .int _, .non => some false
  | .str _, .non => some false
  | .tup _, .non => some false
  | .ref _, .non => some false
  | .sq _, .non => some false
  | .kt _, .non => some false
  | _, _ => none
/-- but for dicts -/
def cmpM (op : CmpOp) (h : MH) (x y : MV) : Option Bool := match op with
  | .Eq => eqM h x y
  | .NotEq => (eqM h x y).map (!·)
  | .Lt => ltM x y
  | .Gt => ltM y x
  | .LtE => (ltM y x).map (!·)
  | .GtE => (ltM x y).map (!·)
  | .Is => isM x y
  | .IsNot => (isM x y).map (!·)
  | .In => inM h x y
  | .NotIn => (inM h x y).map (!·)
def k1 : MV → Option MK
  | .int i => some (.i i)
  | .str s => some (.s s)
  | _ => none
def MK.v : MK → MV
  | .i n => .int n
  | .s l => .str l
def dget {κ : Type} [DecidableEq κ] (kvs : List (κ × MV)) (k : κ) : Option MV := (kvs.find? fun p => decide (p.1 = k)).map (·.2)
def dput {κ : Type} [DecidableEq κ] (kvs : List (κ × MV)) (k : κ) (v : MV) : List (κ × MV) :=
  if (kvs.any fun p => decide (p.1 = k)) = true then kvs.map fun p => if p.1 = k then (p.1, v) else p else kvs ++ [(k, v)]
def ddrop {κ : Type} [DecidableEq κ] (kvs : List (κ × MV)) (k : κ) : List (κ × MV) := kvs.filter fun p => !decide (p.1 = k)
def fget (fs : List (Nat × MV)) (k : Nat) : Option MV := match fs with
  | [] => none
  | p :: r => if p.1 = k then some p.2 else fget r k
def fput (fs : List (Nat × MV)) (k : Nat) (v : MV) : List (Nat × MV) := match fs with
  | [] => [(k, v)]
  | p :: r => if p.1 = k then (p.1, v) :: r else p :: fput r k v
/-- a dict asked: its key, or none -/
def dictAsk (h : MH) (x k : MV) : Option (Option MV) := match x with
  | .ref a => match h[a]? with
    | some (.dK kvs) => match k1 k with
      | some q => some (dget kvs q)
      | none => none
    | _ => none
  | _ => none
def isDict (h : MH) : MV → Bool
  | .ref a => match h[a]? with
    | some (.dK _) => true
    | some (.dT _) => true
    | _ => false
  | _ => false
def lay (o : MO) (h : MH) : Res MV := .ok (.ref h.length) (h ++ [o])
def binM (op : Operator) (h : MH) (x y : MV) : Res MV := match op, x, y with
  | .Add, .int i, .int j => .ok (.int (i + j)) h
  | .Add, .str s, .str t => if s.length + t.length ≤ lim then .ok (.str (s ++ t)) h else .err
  | .Add, .tup xs, .tup ys => if xs.length + ys.length ≤ lim then .ok (.tup (xs ++ ys)) h else .err
  | .Add, .ref a, .ref b => match h[a]?, h[b]? with
    | some (.lst xs), some (.lst ys) => if xs.length + ys.length ≤ lim then lay (.lst (xs ++ ys)) h else .err
    | _, _ => .err
  | .Sub, .int i, .int j => .ok (.int (i - j)) h
  | .Mult, .int i, .int j => if (-(2 ^ 64) < i ∧ i < 2 ^ 64) ∨ (-(2 ^ 64) < j ∧ j < 2 ^ 64) then .ok (.int (i * j)) h else .err
  | .Mult, .str s, .int i => if s.length ≤ 16 ∧ -(2 ^ 63 : Int) ≤ i ∧ i ≤ 1048576 then .ok (.str (List.replicate i.toNat s).flatten) h else .err
  | .FloorDiv, .int i, .int j => if 0 < j ∧ j < 1073741824 then .ok (.int (i / j)) h else .err
  | .Mod, .int i, .int j => if 0 < j then .ok (.int (i % j)) h else .err
  | .Pow, .int i, .int j => if 0 ≤ j ∧ j ≤ 1000000 ∧ i.natAbs < 2 ^ 64 then .ok (.int (i ^ j.toNat)) h else .err
  | _, _, _ => .err
def ixM (h : MH) (x y : MV) : Option MV := match x, y with
  | .ref a, y => match h[a]? with
    | some (.lst xs) => match y with
      | .int i => atI xs i
      | _ => none
    | some (.dK kvs) => (k1 y).bind fun q => dget kvs q
    | _ => none
  | .tup xs, .int i => atI xs i
  | .kt xs, .int i => atI xs i
  | .sq xs, .int i => atI xs i
  | .str s, .int i => if s.length ≤ lim then (atI s i).map fun c => .str [c] else none
  | _, _ => none
def cutL {α : Type} (xs : List α) (lo hi : Option Int) : List α := (xs.drop (HT.sIx xs.length 0 lo)).take (HT.sIx xs.length xs.length hi - HT.sIx xs.length 0 lo)
def slM (h : MH) (x : MV) (lo hi : Option Int) : Res MV := match x with
  | .str s => if s.length ≤ lim then .ok (.str (cutL s lo hi)) h else .err
  | .tup xs => .ok (.tup (cutL xs lo hi)) h
  | .sq xs => lay (.lst (cutL xs lo hi)) h
  | .ref a => match h[a]? with
    | some (.lst xs) => lay (.lst (cutL xs lo hi)) h
    | _ => .err
  | _ => .err
def lenM (h : MH) : MV → Option Nat
  | .str s => if s.length ≤ lim then some s.length else none
  | .tup xs => some xs.length
  | .sq xs => some xs.length
  | .kt xs => some xs.length
  | .ref a => match h[a]? with
    | some (.lst xs) => some xs.length
    | some (.dK kvs) => some kvs.length
    | _ => none
  | _ => none
/-- the built-in type of a value -/
def tyM (h : MH) : MV → Option String
  | .non => some "NoneType" | .bl _ => some "bool" | .int _ => some "int" | .str _ => some "str"
  | .tup _ => some "tuple" | .kt _ => some "tuple" | .sq _ => some "list"
  | .ref a => match h[a]? with
    | some (.lst _) => some "list"
    | some (.dK _) => some "dict"
    | some (.dT _) => some "dict"
    | _ => none
def isinM (t T : String) : Bool := t == T || (t == "bool" && T == "int")
def seqOf (h : MH) : MV → Option (List MV)
  | .tup xs => some xs
  | .sq xs => some xs
  | .kt xs => some xs
  | .ref a => match h[a]? with
    | some (.lst xs) => some xs
    | _ => none
  | _ => none
def intsM : List MV → Option (List Int)
  | [] => some []
  | .int i :: r => (intsM r).map fun t => i :: t
  | _ :: _ => none
def strsM : List MV → Option (List (List Nat))
  | [] => some []
  | .str s :: r => (strsM r).map fun t => s :: t
  | _ :: _ => none
def insI (x : Int) : List Int → List Int
  | [] => [x]
  | y :: r => if x ≤ y then x :: y :: r else y :: insI x r
def sortI : List Int → List Int
  | [] => []
  | x :: r => insI x (sortI r)
def insS (x : List Nat) : List (List Nat) → List (List Nat)
  | [] => [x]
  | y :: r => if x ≤ y then x :: y :: r else y :: insS x r
def sortS : List (List Nat) → List (List Nat)
  | [] => []
  | x :: r => insS x (sortS r)
/-- a tuple with an item -/
def isT1 : PyData → Bool
  | .tuple (_ :: _) => true
  | _ => false
/-- a list of tuples of one shape, sorted -/
def sortD (h : MH) (xs : List MV) : Option (List MV) := match mapO (toD h 30) xs with
  | some ds => if ds.all isT1 = true ∧ (ds.all fun d => ds.all fun e => PySem.W.alike d e) = true ∧ xs.length ≤ lim then some (((xs.zip ds).mergeSort fun p q => !PySem.W.dataLt q.2 p.2).map (·.1)) else none
  | none => none
/-- the keys of a plain dict of texts -/
def keysS : List (MK × MV) → Option (List (List Nat))
  | [] => some []
  | (.s l, _) :: r => (keysS r).map fun t => l :: t
  | _ :: _ => none
def joinM (a : List Nat) : List (List Nat) → List Nat
  | [] => []
  | [x] => x
  | x :: r => x ++ a ++ joinM a r
/-- the function id, a built-in, of values -/
def blt (id : Str) (h : MH) (vs : List MV) : Res MV :=
  if id = ("len" : Str) then match vs with
    | [x] => match lenM h x with
      | some n => .ok (.int n) h
      | none => .err
    | _ => .err
  else if id = ("str" : Str) then match vs with
    | [.int i] => if i.natAbs.log2 < 1920 then .ok (.str (tl (Str.ofString (toString i)))) h else .err
    | [.str s] => .ok (.str s) h
    | _ => .err
  else if id = ("int" : Str) then match vs with
    | [.int i] => .ok (.int i) h
    | [.bl b] => .ok (.int (if b then 1 else 0)) h
    | [.str s] => if s.length ≤ 640 then match PySem.intText? ⟨s.toArray⟩ with
      | some n => .ok (.int n) h
      | none => .err else .err
    | _ => .err
  else if id = ("ord" : Str) then match vs with
    | [.str [c]] => .ok (.int c) h
    | _ => .err
  else if id = ("max" : Str) then match vs with
    | [.int i, .int j] => .ok (.int (if j > i then j else i)) h
    | _ => .err
  else if id = ("min" : Str) then match vs with
    | [.int i, .int j] => .ok (.int (if j < i then j else i)) h
    | _ => .err
  else if id = ("list" : Str) then match vs with
    | [x] => match seqOf h x with
      | some xs => lay (.lst xs) h
      | none => .err
    | _ => .err
  else if id = ("dict" : Str) then match vs with
    | [.ref a] => match h[a]? with
      | some (.dK kvs) => lay (.dK kvs) h
      | _ => .err
    | _ => .err
  else if id = ("sorted" : Str) then match vs with
    | [.ref a] => match h[a]? with
      | some (.dK kvs) => match keysS kvs with
        | some ks => if ks.length < 64 then lay (.lst ((sortS ks).map .str)) h else .err
        | none => .err
      | some (.lst xs) => match intsM xs with
        | some ns => lay (.lst ((sortI ns).map .int)) h
        | none => match strsM xs with
          | some ss => if ss.length < 64 then lay (.lst ((sortS ss).map .str)) h else .err
          | none => match sortD h xs with
            | some ys => lay (.lst ys) h
            | none => .err
      | _ => .err
    | _ => .err
  else .err
/-- the method m of a text, a list, a dict -/
def mth (m : Str) (h : MH) (x : MV) (vs : List MV) : Res MV := match x with
  | .str s =>
    if m = ("split" : Str) then match vs with
      | [.str t] => if t ≠ [] ∧ s.length + 2 ≤ lim then lay (.lst ((Txt.split ⟨s.toArray⟩ ⟨t.toArray⟩).map fun z => .str (tl z))) h else .err
      | [.str t, .int k] => if t ≠ [] ∧ s.length + 2 ≤ lim ∧ -(2 ^ 63) ≤ k ∧ k < 2 ^ 63 then lay (.lst ((Txt.splitMax ⟨s.toArray⟩ ⟨t.toArray⟩ k).map fun z => .str (tl z))) h else .err
      | _ => .err
    else if m = ("join" : Str) then match vs with
      | [y] => match (seqOf h y).bind strsM with
        | some ys => if (ys.map List.length).sum + ys.length * s.length ≤ lim then .ok (.str (joinM s ys)) h else .err
        | none => .err
      | _ => .err
    else if m = ("startswith" : Str) then match vs with
      | [.str t] => .ok (.bl (Txt.startswith ⟨s.toArray⟩ ⟨t.toArray⟩)) h
      | _ => .err
    else if m = ("find" : Str) then match vs with
      | [.str t, .int i] => .ok (.int (Txt.find3 ⟨s.toArray⟩ ⟨t.toArray⟩ i)) h
      | _ => .err
    else .err
  | .ref a => match h[a]? with
    | some (.lst xs) =>
      if m = ("append" : Str) then match vs with
        | [y] => if xs.length < lim then .ok .non (h.set a (.lst (xs ++ [y]))) else .err
        | _ => .err
      else if m = ("pop" : Str) then match vs with
        | [] => match xs[xs.length - 1]? with
          | some y => .ok y (h.set a (.lst xs.dropLast))
          | none => .err
        | [.int i] => if -(2 ^ 63) ≤ i ∧ i < 2 ^ 63 then match seqIndex? i xs.length with
          | some k => match xs[k]? with
            | some y => .ok y (h.set a (.lst (xs.eraseIdx k)))
            | none => .err
          | none => .err else .err
        | _ => .err
      else if m = ("extend" : Str) then match vs with
        | [.ref b] => match h[b]? with
          | some (.lst zs) => if xs.length + zs.length ≤ lim then .ok .non (h.set a (.lst (xs ++ zs))) else .err
          | _ => .err
        | _ => .err
      else .err
    | some (.dK kvs) =>
      if m = ("pop" : Str) then match vs with
        | [k] => match k1 k with
          | some q => match dget kvs q with
            | some v => .ok v (h.set a (.dK (ddrop kvs q)))
            | none => .err
          | none => .err
        | _ => .err
      else if m = ("get" : Str) then match vs with
        | [k] => match k1 k with
          | some q => .ok ((dget kvs q).getD .non) h
          | none => .err
        | [k, d] => match k1 k with
          | some q => .ok ((dget kvs q).getD d) h
          | none => .err
        | _ => .err
      else .err
    | _ => .err
  | _ => .err

/-! ### what a loop walks -/
inductive It where
  | seq (xs : List MV)
  | lst (a : Nat)
def It.at (it : It) (k : Nat) (h : MH) : Option (Option MV) := match it with
  | .seq xs => some xs[k]?
  | .lst a => match h[a]? with
    | some (.lst xs) => some xs[k]?
    | _ => none
def It.fuel (it : It) (h : MH) : Nat := match it with
  | .seq xs => xs.length + 1
  | .lst a => match h[a]? with
    | some (.lst xs) => xs.length + 1
    | _ => 0
def rangeL (lo : Int) : Nat → List MV
  | 0 => []
  | n + 1 => .int lo :: rangeL (lo + 1) n
def rangeM (lo hi : Int) : Option It := if -(2 ^ 62) ≤ lo ∧ lo < 2 ^ 62 ∧ -(2 ^ 62) ≤ hi ∧ hi < 2 ^ 62 then some (.seq (rangeL lo (hi - lo).toNat)) else none
def itOf (h : MH) : MV → Option It
  | .tup xs => some (.seq xs)
  | .kt xs => some (.seq xs)
  | .sq xs => some (.seq xs)
  | .str s => if s.length ≤ lim then some (.seq (s.map fun c => .str [c])) else none
  | .ref a => match h[a]? with
    | some (.lst _) => some (.lst a)
    | _ => none
  | _ => none
/-- a slot that may be set here -/
def SC.slotA (sc : SC) (x : Str) : Option Nat := if odd x then none else match sc.scope.names.lookup x with
  | some .local => idx x sc.N
  | some .cell => if sc.lf then idx x sc.N else none
  | _ => none
/-- targets that are names -/
def asgs (sc : SC) : List Expr → List MV → MSt → Option MSt
  | [], [], sm => some sm
  | .Name x _ :: es, v :: vs, sm => match sc.slotA x with
    | some i => asgs sc es vs (sm.set i (some v))
    | none => none
  | _, _, _ => none
/-- a target of names -/
def asg (sc : SC) : Expr → MV → MSt → Option MSt
  | .Name x _, v, sm => match sc.slotA x with
    | some i => some (sm.set i (some v))
    | none => none
  | .Tuple es _ _, v, sm => match v with
    | .tup xs => asgs sc es xs sm
    | .kt xs => asgs sc es xs sm
    | _ => none
  | _, _, _ => none
end Mn
end

section
set_option linter.all false
set_option maxRecDepth 100000
set_option maxHeartbeats 1000000
/-! the small semantics: expressions, statements, calls -/
namespace Mn
open PySem PySem.Spec L2

structure Lv where
  e : SC → Expr → MSt → MH → Res MV
  t : SC → Expr → MSt → MH → Res Bool
def opt {α : Type} (o : Option α) (h : MH) : Res α := match o with
  | some x => .ok x h
  | none => .err
def evA (ev : Expr → MSt → MH → Res MV) : List Expr → MSt → MH → Res (List MV)
  | [], _, h => .ok [] h
  | e :: es, sm, h => (ev e sm h).bind fun x h1 => (evA ev es sm h1).bind fun xs h2 => .ok (x :: xs) h2
/-- and, or as values -/
def evO (ev : Expr → MSt → MH → Res MV) (op : BoolOp) : List Expr → MSt → MH → Res MV
  | [], _, _ => .err
  | [e], sm, h => ev e sm h
  | e :: es, sm, h => (ev e sm h).bind fun x h1 => match truth h1 x with
    | none => .err
    | some b => match op with
      | .And => if b then evO ev op es sm h1 else .ok x h1
      | .Or => if b then .ok x h1 else evO ev op es sm h1
/-- .. as tests -/
def evOT (ev : Expr → MSt → MH → Res Bool) (op : BoolOp) : List Expr → MSt → MH → Res Bool
  | [], _, _ => .err
  | [e], sm, h => ev e sm h
  | e :: es, sm, h => (ev e sm h).bind fun b h1 => match op with
      | .And => if b then evOT ev op es sm h1 else .ok false h1
      | .Or => if b then .ok true h1 else evOT ev op es sm h1
/-- a comparison's operator on values -/
def cmpV (op : CmpOp) (h : MH) (x y : MV) : Option Bool :=
  if isDict h y then match op with
    | .In => (dictAsk h y x).map (·.isSome)
    | .NotIn => (dictAsk h y x).map (!·.isSome)
    | _ => cmpM op h x y
  else cmpM op h x y
def guardR {α : Type} (b : Bool) (r : Res α) : Res α := match r with
  | .ex e h => if b then .err else .ex e h
  | r => r
def callI (g : GS) (C : CallS) (md : Bool) (i : Nat) (vs : List MV) (h : MH) : Res MV := match g.funs[i]? with
  | some f => if vs.length ≤ f.ps.length ∧ f.ps.length ≤ vs.length + f.dfl.length then
      guardR (md && !f.cn) (C i (vs ++ f.dfl.drop (vs.length + f.dfl.length - f.ps.length)) h) else .err
  | none => .err
def initN : Str := "__init__"
def callN (g : GS) (C : CallS) (md : Bool) (x : Str) (vs : List MV) (h : MH) : Res MV := match g.fun? x with
  | some i => callI g C md i vs h
  | none => match g.cls? x with
    | some c => match g.meth? c initN with
      | some j => (callI g C md j (.ref h.length :: vs) (h ++ [.ins c []])).bind fun v h2 => match v with
        | .non => .ok (.ref h.length) h2
        | _ => .err
      | none => .err
    | none => if g.bltn x then blt x h vs else .err
def tyS (x : Str) : Option String := if x = ("str" : Str) then some "str" else if x = ("int" : Str) then some "int" else if x = ("bool" : Str) then some "bool"
  else if x = ("list" : Str) then some "list" else if x = ("tuple" : Str) then some "tuple" else if x = ("dict" : Str) then some "dict" else none
def tyNm (g : GS) (sc : SC) : Expr → Option String
  | .Name x _ => if sc.gl x && g.bltn x then tyS x else none
  | _ => none
def bltS (x : Str) : Bool := decide (x = "len") || (decide (x = "str") || (decide (x = "int") || (decide (x = "ord") || (decide (x = "max") || (decide (x = "min") || (decide (x = "list") || (decide (x = "dict") || decide (x = "sorted"))))))))
/-- may x(..) be called -/
def okN (g : GS) (x : Str) (es : List Expr) : Bool := match g.fun? x with
  | some _ => true
  | none => match g.cls? x with
    | some c => (g.meth? c initN).isSome && g.own c
    | none => g.bltn x && (bltS x && !es.isEmpty)
def isLst (h : MH) : MV → Bool
  | .ref a => match h[a]? with
    | some (.lst _) => true
    | _ => false
  | _ => false
def isDk (h : MH) : MV → Bool
  | .ref a => match h[a]? with
    | some (.dK _) => true
    | _ => false
  | _ => false
def okMs (m : Str) (es : List Expr) : Bool := (decide (m = "split") || (decide (m = "join") || (decide (m = "startswith") || decide (m = "find")))) && !es.isEmpty
def okMl (m : Str) (es : List Expr) : Bool := (decide (m = "append") && !es.isEmpty) || ((decide (m = "extend") && !es.isEmpty) || decide (m = "pop"))
def okMd (m : Str) (es : List Expr) : Bool := (decide (m = "pop") && es.length == 1) || (decide (m = "get") && (es.length == 1 || es.length == 2))
def evAt (sc : SC) : Option Expr → (Expr → MSt → MH → Res MV) → MSt → MH → Res (Option Int)
  | none, _, _, h => .ok none h
  | some e, ev, sm, h => (ev e sm h).bind fun x h1 => match x with
    | .int i => .ok (some i) h1
    | _ => .err
/-- no *e, not too many -/
def plainA (es : List Expr) : Bool := decide (es.length < 28) && es.all fun e => match e with
  | .Starred _ _ => false
  | _ => true
def isSet : Expr → Bool
  | .Set _ _ _ => true
  | _ => false
/-- what a for walks -/
def evIt (g : GS) (sc : SC) (ev : Expr → MSt → MH → Res MV) (e : Expr) (sm : MSt) (h : MH) : Res It := match e with
  | .Call (.Name x _) es [] _ => if x = ("range" : Str) ∧ sc.gl x = true ∧ g.bltn x = true ∧ plainA es = true then match es with
      | [a] => (ev a sm h).bind fun v h1 => match v with
        | .int n => opt (rangeM 0 n) h1
        | _ => .err
      | [a, b] => (ev a sm h).bind fun v h1 => (ev b sm h1).bind fun u h2 => match v, u with
        | .int i, .int j => opt (rangeM i j) h2
        | _, _ => .err
      | _ => .err
    else (ev e sm h).bind fun v h1 => opt (itOf h1 v) h1
  | _ => (ev e sm h).bind fun v h1 => opt (itOf h1 v) h1
/-- no call without arguments: super() -/
def plainO : Expr → Bool
  | .Name _ _ => true
  | .Attribute _ _ _ => true
  | .Constant _ _ _ => true
  | .Subscript _ _ _ => true
  | .Call (.Name _ _) (_ :: _) _ _ => true
  | .Call (.Attribute _ _ _) _ _ _ => true
  | .BinOp _ _ _ _ => true
  | _ => false
/-- the one argument f(a) of a call -/
def inArg : List Expr → Option (Str × Expr)
  | [.Call (.Name y _) [a] [] _] => some (y, a)
  | _ => none
def dedI : List Int → List Int
  | [] => []
  | x :: r => if (dedI r).contains x then dedI r else x :: dedI r
/-- sorted(set(..)) of ints -/
def setSort (h : MH) (x : MV) : Res MV := match x with
  | .ref a => match h[a]? with
    | some (.lst xs) => match intsM xs with
      | some ns => if ns.length < 64 then lay (.lst ((sortI (dedI ns)).map .int)) h else .err
      | none => .err
    | _ => .err
  | _ => .err
def wipeM (sm : MSt) : List Nat → MSt
  | [] => sm
  | v :: vs => (wipeM sm vs).set v none
def ownOf (N : List Str) : List (Str × NameKind) → List (Str × Nat)
  | [] => []
  | (n, k) :: r => match k with
    | .local => match idx n N with
      | some i => (n, i) :: ownOf N r
      | none => ownOf N r
    | .cell => match idx n N with
      | some i => (n, i) :: ownOf N r
      | none => ownOf N r
    | _ => ownOf N r
def tgS (sc : SC) : Expr → List Nat
  | .Name x _ => (sc.slotA x).toList
  | .Tuple es _ _ => es.flatMap fun e => match e with
    | .Name x _ => (sc.slotA x).toList
    | _ => []
  | _ => []
def noEx {α : Type} (r : Res α) : Res α := match r with
  | .ex _ _ => .err
  | r => r
def evIfs (et : Expr → MSt → MH → Res Bool) : List Expr → MSt → MH → Res Bool
  | [], _, h => .ok true h
  | e :: es, sm, h => (et e sm h).bind fun b h1 => if b then evIfs et es sm h1 else .ok false h1
/-- the turns of a comprehension; D: the new list -/
def lcM (L : Lv) (sc : SC) (elt tg : Expr) (ifs : List Expr) (sm : MSt) (it : It) (D : Nat) : Nat → Nat → MH → Res MV
  | 0, _, _ => .err
  | m + 1, k, h => match it.at k h with
    | none => .err
    | some none => .ok (.ref D) h
    | some (some x) => match asg sc tg x sm with
      | none => .err
      | some sm2 => (noEx (evIfs (L.t sc) ifs sm2 h)).bind fun b h2 =>
        if b then (noEx (L.e sc elt sm2 h2)).bind fun y h3 => match h3[D]? with
          | some (.lst acc) => if acc.length < lim then lcM L sc elt tg ifs sm it D m (k + 1) (h3.set D (.lst (acc ++ [y]))) else .err
          | _ => .err
        else lcM L sc elt tg ifs sm it D m (k + 1) h2
def scIn (sc : SC) (scope : Scope) : SC := ⟨sc.N, relS scope sc.scope, false, false, false⟩
def ownN (sc : SC) (scope : Scope) : List Nat := (ownOf sc.N scope.names).map (·.2)
/-- may the block stand here -/
def blkOk (sc : SC) (scope : Scope) : Bool := (match scope.kind with
    | .function => true
    | _ => false) && scope.names.all fun y => decide (scope.names.lookup y.1 = some y.2) && ((match y.2 with
      | .free => decide (sc.scope.names.lookup y.1 = some .cell) || decide (sc.scope.names.lookup y.1 = some .free)
      | .local => (ownOf sc.N scope.names).any (fun p => p.1 = y.1) || (idx y.1 sc.N).isNone
      | .cell => (ownOf sc.N scope.names).any (fun p => p.1 = y.1) || (idx y.1 sc.N).isNone
      | _ => true) && true)
/-- isinstance(..) -/
def isiM (g : GS) (L : Lv) (sc : SC) (es : List Expr) (sm : MSt) (h : MH) : Res MV := match es with
  | [a, .Tuple [t1, t2] _ _] => match tyNm g sc t1, tyNm g sc t2 with
    | some T1, some T2 => (L.e sc a sm h).bind fun v h1 => match tyM h1 v with
      | some t => .ok (.bl (isinM t T1 || isinM t T2)) h1
      | none => .err
    | _, _ => .err
  | [a, t1] => match tyNm g sc t1 with
    | some T1 => (L.e sc a sm h).bind fun v h1 => match tyM h1 v with
      | some t => .ok (.bl (isinM t T1)) h1
      | none => .err
    | none => .err
  | _ => .err
def stepE (g : GS) (C : CallS) (L : Lv) (sc : SC) (e : Expr) (sm : MSt) (h : MH) : Res MV := match e with
  | .Constant c _ _ => match c with
    | .none => .ok .non h
    | .bool b => .ok (.bl b) h
    | .int i => .ok (.int i) h
    | .str x => .ok (.str (tl x)) h
    | _ => .err
  | .Name x _ => match sc.slot x with
    | some i => match sm[i]? with
      | some (some v) => .ok v h
      | _ => .err
    | none => if sc.gl x then opt (g.consts.lookup x) h else .err
  | .BinOp a op b _ => (L.e sc a sm h).bind fun x h1 => (L.e sc b sm h1).bind fun y h2 => binM op h2 x y
  | .UnaryOp op a _ => match op with
    | .Not => (L.e sc a sm h).bind fun x h1 => match truth h1 x with
      | some b => .ok (.bl (!b)) h1
      | none => .err
    | .USub => (L.e sc a sm h).bind fun x h1 => match x with
      | .int i => .ok (.int (-i)) h1
      | _ => .err
    | _ => .err
  | .BoolOp op vs _ => evO (L.e sc) op vs sm h
  | .Compare a [op] [b] _ => if isSet b then .err else (L.e sc a sm h).bind fun x h1 => (L.e sc b sm h1).bind fun y h2 => (opt (cmpV op h2 x y) h2).bind fun k h3 => .ok (.bl k) h3
  | .Compare a [op, op'] [b, c] _ => if isSet c then .err else (L.e sc a sm h).bind fun x h1 => (L.e sc b sm h1).bind fun y h2 => (opt (cmpM op h2 x y) h2).bind fun k h3 =>
    if k then (L.e sc c sm h3).bind fun z h4 => (opt (cmpM op' h4 y z) h4).bind fun k' h5 => .ok (.bl k') h5 else .ok (.bl false) h3
  | .IfExp t a b _ => (L.t sc t sm h).bind fun k h1 => if k then L.e sc a sm h1 else L.e sc b sm h1
  | .Tuple es _ _ => if !plainA es then .err else (evA (L.e sc) es sm h).bind fun xs h1 => if xs.length ≤ lim then .ok (.tup xs) h1 else .err
  | .List es _ => if !plainA es then .err else (evA (L.e sc) es sm h).bind fun xs h1 => if xs.length ≤ lim then lay (.lst xs) h1 else .err
  | .Dict [] [] _ => lay (.dK []) h
  | .ListComp elt [⟨tg, iter, ifs, 0⟩] scope _ =>
    if blkOk sc scope && ((tgS (scIn sc scope) tg).all (ownN sc scope).contains && (decide (ifs.length ≤ 1) && !isSet iter)) then
      (evIt g sc (L.e sc) iter sm h).bind fun it h1 => lcM L (scIn sc scope) elt tg ifs (wipeM sm (ownN sc scope)) it h1.length (it.fuel h1) 0 (h1 ++ [.lst []])
    else .err
  | .Call (.Name x _) es [] _ =>
    if sc.gl x && plainA es then
      if x = ("isinstance" : Str) ∧ g.bltn x = true then isiM g L sc es sm h
      else match inArg es with
        | some (y, a) => if x = ("sorted" : Str) ∧ y = ("set" : Str) ∧ g.bltn x = true ∧ g.bltn y = true ∧ sc.gl y = true ∧ plainA [a] = true then
            (L.e sc a sm h).bind fun v h1 => setSort h1 v
          else if okN g x es then (evA (L.e sc) es sm h).bind fun vs h1 => callN g C sc.md x vs h1 else .err
        | none => if okN g x es then (evA (L.e sc) es sm h).bind fun vs h1 => callN g C sc.md x vs h1 else .err
    else .err
  | .Call (.Attribute o m apos) es [] cpos => if apos.endLine == cpos.line && plainO o && plainA es then (L.e sc o sm h).bind fun x h1 => match x with
    | .ref a => match h1[a]? with
      | some (.ins c fs) => match g.meth? c m with
        | some i => if ((g.attr? m).bind (fget fs)).isNone && g.own c then (evA (L.e sc) es sm h1).bind fun vs h2 => callI g C sc.md i (x :: vs) h2 else .err
        | none => .err
      | some (.lst _) => if okMl m es then (evA (L.e sc) es sm h1).bind fun vs h2 => if isLst h2 x then mth m h2 x vs else .err else .err
      | some (.dK _) => if okMd m es then (evA (L.e sc) es sm h1).bind fun vs h2 => if isDk h2 x then mth m h2 x vs else .err else .err
      | _ => .err
    | .str _ => if okMs m es then (evA (L.e sc) es sm h1).bind fun vs h2 => mth m h2 x vs else .err
    | _ => .err
    else .err
  | .Attribute o f _ => if plainO o then (L.e sc o sm h).bind fun x h1 => match x with
    | .ref a => match h1[a]?, g.attr? f with
      | some (.ins c fs), some k => if g.own c then opt (fget fs k) h1 else .err
      | _, _ => .err
    | _ => .err
    else .err
  | .Subscript o (.Slice lo hi none _) _ => (L.e sc o sm h).bind fun x h1 => (evAt sc lo (L.e sc) sm h1).bind fun l h2 => (evAt sc hi (L.e sc) sm h2).bind fun u h3 => slM h3 x l u
  | .Subscript o i _ => match i with
    | .Slice _ _ _ _ => .err
    | i => (L.e sc o sm h).bind fun x h1 => (L.e sc i sm h1).bind fun y h2 => opt (ixM h2 x y) h2
  | _ => .err
def stepT (g : GS) (C : CallS) (L : Lv) (sc : SC) (e : Expr) (sm : MSt) (h : MH) : Res Bool := match e with
  | .UnaryOp .Not a _ => (L.t sc a sm h).bind fun b h1 => .ok (!b) h1
  | .BoolOp op vs _ => evOT (L.t sc) op vs sm h
  | .Compare a [op] [b] _ => if isSet b then .err else (L.e sc a sm h).bind fun x h1 => (L.e sc b sm h1).bind fun y h2 => opt (cmpV op h2 x y) h2
  | .Compare a [op, op'] [b, c] _ => if isSet c then .err else (L.e sc a sm h).bind fun x h1 => (L.e sc b sm h1).bind fun y h2 => (opt (cmpM op h2 x y) h2).bind fun k h3 =>
    if k then (L.e sc c sm h3).bind fun z h4 => opt (cmpM op' h4 y z) h4 else .ok false h3
  | .Compare _ _ _ _ => .err
  | .IfExp _ _ _ _ => .err
  | e => (L.e sc e sm h).bind fun x h1 => opt (truth h1 x) h1
def lvN (g : GS) (C : CallS) : Nat → Lv
  | 0 => ⟨fun _ _ _ _ => .err, fun _ _ _ _ => .err⟩
  | n + 1 => ⟨stepE g C (lvN g C n), stepT g C (lvN g C n)⟩
def deepE : Nat := 40
abbrev ev (g : GS) (C : CallS) : Lv := lvN g C deepE

/-! ### statements -/
abbrev LvS := SC → Stmt → MSt → MH → SR
def exB (ex : Stmt → MSt → MH → SR) : List Stmt → MSt → MH → SR
  | [], sm, h => .nx sm h
  | st :: r, sm, h => match ex st sm h with
    | .nx sm' h' => exB ex r sm' h'
    | x => x
def Res.then' {α : Type} (r : Res α) (sm : MSt) (f : α → MH → SR) : SR := match r with
  | .ok a h => f a h
  | .ex e h => .ex e sm h
  | .err => .err
def whM (t : MSt → MH → Res Bool) (b : MSt → MH → SR) : Nat → MSt → MH → SR
  | 0, _, _ => .err
  | n + 1, sm, h => (t sm h).then' sm fun k h1 => if k then match b sm h1 with
      | .nx sm2 h2 => whM t b n sm2 h2
      | .ct sm2 h2 => whM t b n sm2 h2
      | .bk sm2 h2 => .nx sm2 h2
      | x => x
    else .nx sm h1
def forM (sc : SC) (tg : Expr) (it : It) (b : MSt → MH → SR) : Nat → Nat → MSt → MH → SR
  | 0, _, _, _ => .err
  | m + 1, k, sm, h => match it.at k h with
    | none => .err
    | some none => .nx sm h
    | some (some x) => match asg sc tg x sm with
      | none => .err
      | some sm1 => match b sm1 h with
        | .nx sm2 h2 => forM sc tg it b m (k + 1) sm2 h2
        | .ct sm2 h2 => forM sc tg it b m (k + 1) sm2 h2
        | .bk sm2 h2 => .nx sm2 h2
        | x => x
def whFuel : Nat := 1099511627776
/-- o[i] = v -/
def setM (h : MH) (x y v : MV) : Option MH := match x with
  | .ref a => match h[a]? with
    | some (.lst xs) => match y with
      | .int i => match ixN xs.length i with
        | some k => some (h.set a (.lst (xs.set k v)))
        | none => none
      | _ => none
    | some (.dK kvs) => match k1 y with
      | some q => if kvs.length < lim then some (h.set a (.dK (dput kvs q v))) else none
      | none => none
    | _ => none
  | _ => none
/-- is the class c (of an exception) a class d -/
def isA (g : GS) (c d : Nat) : Option Bool := if c < g.nm.clss.length then (g.excs.lookup c).map fun l => l.contains d else none
/-- a suite that raises nothing and calls nothing -/
inductive Sim where
  | rt (v : MV) | ct | ps
def simS : List Stmt → Option Sim
  | [.Return (some (.Constant (.bool b) _ _)) _] => some (.rt (.bl b))
  | [.Return (some (.Constant .none _ _)) _] => some (.rt .non)
  | [.Continue _] => some .ct
  | [.Pass _] => some .ps
  | _ => none
/-- raise X('..') from None -/
def fromS : List Stmt → Option Str
  | [.Raise (some (.Call (.Name x _) [.Constant (.str _) _ _] [] _)) (some (.Constant .none _ _)) _] => some x
  | _ => none
def isSl : Expr → Bool
  | .Slice _ _ _ _ => true
  | _ => false
def isAdd : Operator → Bool
  | .Add => true
  | _ => false
/-- a list's item -/
def gtM (h : MH) (x y : MV) : Option MV := match x with
  | .ref a => match h[a]? with
    | some (.lst xs) => match y with
      | .int i => atI xs i
      | _ => none
    | _ => none
  | _ => none
def isLc : Expr → Bool
  | .ListComp _ _ _ _ => true
  | .SetComp _ _ _ _ => true
  | .DictComp _ _ _ _ _ => true
  | _ => false
def isExc (g : GS) (c : Nat) : Bool := decide (c < g.nm.clss.length) && (g.excs.lookup c).isSome
def stepS (g : GS) (E : Lv) (L : LvS) (sc : SC) (st : Stmt) (sm : MSt) (h : MH) : SR := match st with
  | .Pass _ => .nx sm h
  | .Break _ => .bk sm h
  | .Continue _ => .ct sm h
  | .Expr e _ => if isLc e then .err else (E.e sc e sm h).then' sm fun _ h1 => .nx sm h1
  | .Return none _ => .rt .non h
  | .Return (some e) _ => (E.e sc e sm h).then' sm fun v h1 => .rt v h1
  | .Assign [tg] e _ => match tg with
    | .Name x _ => match sc.slotA x with
      | some i => (E.e sc e sm h).then' sm fun v h1 => .nx (sm.set i (some v)) h1
      | none => .err
    | .Attribute o f _ => (E.e sc e sm h).then' sm fun v h1 => (E.e sc o sm h1).then' sm fun x h2 => match x with
      | .ref a => match h2[a]?, g.attr? f with
        | some (.ins c fs), some k => if fs.length < 1000 ∧ g.own c = true then .nx sm (h2.set a (.ins c (fput fs k v))) else .err
        | _, _ => .err
      | _ => .err
    | .Subscript o i _ => if isSl i then .err else (E.e sc e sm h).then' sm fun v h1 => (E.e sc o sm h1).then' sm fun x h2 => (E.e sc i sm h2).then' sm fun y h3 => match setM h3 x y v with
      | some h4 => .nx sm h4
      | none => .err
    | .Tuple _ _ _ => match e with
      | .Tuple _ _ _ => .err
      | e => if isLc e then .err else (E.e sc e sm h).then' sm fun v h1 => match asg sc tg v sm with
        | some sm1 => .nx sm1 h1
        | none => .err
    | _ => .err
  | .AugAssign (.Subscript o i _) op e _ => if isSl i || !isAdd op then .err else (E.e sc o sm h).then' sm fun x h1 => (E.e sc i sm h1).then' sm fun y h2 => match gtM h2 x y with
    | some old => (E.e sc e sm h2).then' sm fun v h3 => match old, v with
      | .int p, .int q => match setM h3 x y (.int (p + q)) with
        | some h4 => .nx sm h4
        | none => .err
      | _, _ => .err
    | none => .err
  | .If t a b _ => (E.t sc t sm h).then' sm fun k h1 => if k then exB (L sc) a sm h1 else exB (L sc) b sm h1
  | .While t b [] _ => whM (E.t sc t) (exB (L sc) b) whFuel sm h
  | .For tg iter b [] _ => if isSet iter then .err else (evIt g sc (E.e sc) iter sm h).then' sm fun it h1 => forM sc tg it (exB (L sc) b) (it.fuel h1) 0 sm h1
  | .Raise (some (.Call (.Name x _) [e] [] _)) none _ => match g.cls? x with
    | some c => if sc.gl x && (isExc g c && plainA [e]) then (E.e sc e sm h).then' sm fun _ h1 => .ex ⟨c, []⟩ sm h1 else .err
    | none => .err
  | .Try body [.ExceptHandler (some (.Name x _)) none suite _] [] [] _ => match g.cls? x with
    | some d => if sc.gl x && (isExc g d && !sc.md) then
      match fromS suite with
      | some y => match g.cls? y with
        | some c => if sc.gl y && (isExc g c && sc.tp) then match exB (L { sc with md := true, tp := false }) body sm h with
            | .ex e sm1 h1 => match isA g e.cls d with
              | some true => .ex ⟨c, []⟩ sm1 h1
              | some false => .ex e sm1 h1
              | none => .err
            | x => x
          else .err
        | none => .err
      | none => match simS suite with
        | some s => match exB (L { sc with tp := false }) body sm h with
          | .ex e sm1 h1 => match isA g e.cls d with
            | some true => match s with
              | .rt v => .rt v h1
              | .ct => .ct sm1 h1
              | .ps => .nx sm1 h1
            | some false => .ex e sm1 h1
            | none => .err
          | x => x
        | none => .err
      else .err
    | none => .err
  | _ => .err
def lvS (g : GS) (E : Lv) : Nat → LvS
  | 0 => fun _ _ _ _ => .err
  | n + 1 => stepS g E (lvS g E n)
def deepS : Nat := 20
def startM (N : List Str) (vs : List MV) : MSt := vs.map some ++ List.replicate (N.length - vs.length) none
def runF (g : GS) (C : CallS) (f : FI) (vs : List MV) (h : MH) : Res MV := match exB (lvS g (ev g C) deepS ⟨f.N, f.scope, f.cn, true, true⟩) f.body (startM f.N vs) h with
  | .nx _ h1 => .ok .non h1
  | .rt v h1 => .ok v h1
  | .ex e _ h1 => .ex e h1
  | _ => .err
def callF (g : GS) : Nat → CallS
  | 0 => fun _ _ _ => .err
  | k + 1 => fun i vs h => match g.funs[i]? with
    | some f => runF g (callF g k) f vs h
    | none => .err
end Mn
end

section
set_option autoImplicit false
set_option linter.all false
set_option maxRecDepth 100000
set_option maxHeartbeats 1000000
/-! the small semantics is sound: expressions -/
namespace Mn
open PySem PySem.Spec L2

/-! ### readings -/
/-- an exception -/
def RX (K : PySem.W.Frag) (nm : Nm) (H : Hp) (rho : List Addr) (e : MX) (C : Value) (d : Option Addr) : Prop :=
  C = .ref (He.ga K (nm.cls e.cls)) ∧ (e.fs ≠ [] → ∃ dd l, d = some dd ∧ H dd = some (.xd l) ∧ RF K nm H rho e.fs l)
def RT {α β : Type} (K : PySem.W.Frag) (nm : Nm) (R : Hp → List Addr → α → β → Prop) (W : WX) (σ : L2.St) (Q : β → Hp → Prop) (rho : List Addr) (H : Hp) : Res α → Prop
  | .ok a h => ∀ rho' H' b, Ex K rho H rho' H' → Rel K nm rho' h H' → R H' rho' a b → Q b H'
  | .ex e h => ∀ rho' H' C d, Ex K rho H rho' H' → Rel K nm rho' h H' → RX K nm H' rho' e C d → W C d σ H'
  | .err => False
abbrev relV' (K : PySem.W.Frag) : Hp → List Addr → MV → V → Prop := fun H rho => RV K H rho
abbrev relVs (K : PySem.W.Frag) : Hp → List Addr → List MV → List V → Prop := fun H rho => RVs K H rho
abbrev relB : Hp → List Addr → Bool → Bool → Prop := fun _ _ a b => a = b
abbrev relI : Hp → List Addr → Option Int → Option Int → Prop := fun _ _ a b => a = b
section
variable {K : PySem.W.Frag} {nm : Nm} {W : WX} {σ : L2.St} {rho : List Addr} {H : Hp}
theorem RT.imp {α β : Type} {R : Hp → List Addr → α → β → Prop} {Q Q' : β → Hp → Prop} {r : Res α} (h : RT K nm R W σ Q rho H r) (q : ∀ b H', Q b H' → Q' b H') : RT K nm R W σ Q' rho H r := by
  cases r with
  | ok a h1 => exact fun rho' H' b e1 e2 e3 => q _ _ (h rho' H' b e1 e2 e3)
  | ex e h1 => exact h
  | err => exact h
theorem RT.bind {α β γ δ : Type} {R : Hp → List Addr → α → β → Prop} {R' : Hp → List Addr → γ → δ → Prop} {Q : δ → Hp → Prop} {r : Res α} {f : α → MH → Res γ} (h : RT K nm R' W σ Q rho H (r.bind f)) :
    RT K nm R W σ (fun b H1 => ∃ rho1 h1 a, Ex K rho H rho1 H1 ∧ Rel K nm rho1 h1 H1 ∧ R H1 rho1 a b ∧ RT K nm R' W σ Q rho1 H1 (f a h1)) rho H r := by
  cases r with
  | ok a h1 =>
    intro rho' H' b e1 e2 e3
    refine ⟨rho', h1, a, e1, e2, e3, ?_⟩
    have h' : RT K nm R' W σ Q rho H (f a h1) := h
    cases hf : f a h1 with
    | ok c h2 =>
      rw [hf] at h'
      exact fun r2 H2 b2 x1 x2 x3 => h' r2 H2 b2 (e1.trans x1) x2 x3
    | ex e h2 =>
      rw [hf] at h'
      exact fun r2 H2 C d x1 x2 x3 => h' r2 H2 C d (e1.trans x1) x2 x3
    | err =>
      rw [hf] at h'
      exact h'
  | ex e h1 => exact h
  | err => exact h
end
def tE (K : PySem.W.Frag) (nm : Nm) (W : WX) (m : MSt → MH → Res MV) : TE := fun σ H Q => ∃ rho sm h, RS K H rho sm σ ∧ Rel K nm rho h H ∧ RT K nm (relV' K) W σ Q rho H (m sm h)
def tT (K : PySem.W.Frag) (nm : Nm) (W : WX) (m : MSt → MH → Res Bool) : TT := fun σ H Q => ∃ rho sm h, RS K H rho sm σ ∧ Rel K nm rho h H ∧ RT K nm relB W σ Q rho H (m sm h)
def tA (K : PySem.W.Frag) (nm : Nm) (W : WX) (m : MSt → MH → Res (List MV)) : TA := fun σ H Q => ∃ rho sm h, RS K H rho sm σ ∧ Rel K nm rho h H ∧ RT K nm (relVs K) W σ Q rho H (m sm h)
def tO (K : PySem.W.Frag) (nm : Nm) (W : WX) (m : MSt → MH → Res (Option Int)) : TO := fun σ H Q => ∃ rho sm h, RS K H rho sm σ ∧ Rel K nm rho h H ∧ RT K nm relI W σ Q rho H (m sm h)
theorem peI {X : Cx} {e : Expr} {t t' : TE} (h : PE X e t) (i : ∀ σ H Q, t' σ H Q → t σ H Q) : PE X e t' := ⟨fun pins s σ H Q I q => h.run pins s σ H Q I (i _ _ _ q)⟩
theorem peO {X : Cx} {e : Expr} {t : TE} (h : ∀ σ H Q, t σ H Q → ∃ t', PE X e t' ∧ t' σ H Q) : PE X e t := ⟨fun pins s σ H Q I q => by
  obtain ⟨t', p, q'⟩ := h σ H Q q
  exact p.run pins s σ H Q I q'⟩
theorem ptI {X : Cx} {e : Expr} {t t' : TT} (h : PT X e t) (i : ∀ σ H Q, t' σ H Q → t σ H Q) : PT X e t' := ⟨fun pins s σ H Q I q => h.run pins s σ H Q I (i _ _ _ q)⟩
theorem ptO {X : Cx} {e : Expr} {t : TT} (h : ∀ σ H Q, t σ H Q → ∃ t', PT X e t' ∧ t' σ H Q) : PT X e t := ⟨fun pins s σ H Q I q => by
  obtain ⟨t', p, q'⟩ := h σ H Q q
  exact p.run pins s σ H Q I q'⟩
theorem paI {X : Cx} {e : List Expr} {t t' : TA} (h : PA X e t) (i : ∀ σ H Q, t' σ H Q → t σ H Q) : PA X e t' := ⟨fun pos pins s σ H Q I q => h.run pos pins s σ H Q I (i _ _ _ q)⟩
theorem paO {X : Cx} {e : List Expr} {t : TA} (h : ∀ σ H Q, t σ H Q → ∃ t', PA X e t' ∧ t' σ H Q) : PA X e t := ⟨fun pos pins s σ H Q I q => by
  obtain ⟨t', p, q'⟩ := h σ H Q q
  exact p.run pos pins s σ H Q I q'⟩

/-! ### what is known of the program -/
def spM (K : PySem.W.Frag) (nm : Nm) (n : Nat) (F : List MV → MH → Res MV) : Sp := fun vs H Q E => vs.length = n ∧ ∃ rho h xs, RVs K H rho xs vs ∧ Rel K nm rho h H ∧ RT K nm (relV' K) (fun C d _ H' => E C d H') [] Q rho H (F xs h)
def cxM (P : Program) (w : World) (cn : Bool) : CXT := if cn then L2N.CX P w else L2.CX P w
structure GOk (g : GS) (C : CallS) (lv : Nat) (P : Program) (w : World) (K : PySem.W.Frag) (mg : Str → Option Value) (base : Heap) : Prop where
  fn : ∀ (i : Nat) (f : FI), g.funs[i]? = some f → ∃ fd, FnOk P w K mg base (cxM P w f.cn) lv (He.fAd K f.at_) fd f.ps (spM K g.nm f.ps.length (C i)) ∧ PySem.W.keepIn K (.ref (He.fAd K f.at_)) = true ∧
    ∀ n, n ≤ f.ps.length → f.ps.length ≤ n + f.dfl.length → ∃ dvs ds, (∀ rho H, RVs K H rho (f.dfl.drop (n + f.dfl.length - f.ps.length)) dvs) ∧ Vals dvs ds ∧ Binds K fd f.ps ds
  glo : ∀ (i : Nat) (f : FI) (x : Str), g.funs[i]? = some f → f.at_ = (x, none) → mg x = some (.ref (He.fAd K f.at_))
  meth : ∀ (i : Nat) (f : FI) (x m : Str), g.funs[i]? = some f → f.at_ = (x, some m) → Meth K (He.ga K x) m (He.fAd K f.at_)
  cls : ∀ (c : Nat) (x : Str), g.nm.clss[c]? = some x → g.excs.lookup c = none → mg x = some (.ref (He.ga K x)) ∧ Cls K (He.ga K x) ∧ ∀ y ∈ g.nm.attrs, NoAttr K (He.ga K x) y
  mkc : ∀ (i : Nat) (f : FI) (x : Str) (c : Nat), g.funs[i]? = some f → f.at_ = (x, some initN) → g.nm.clss[c]? = some x → g.excs.lookup c = none → Mk K (He.ga K x) (He.fAd K f.at_)
  const : ∀ (x : Str) (v : MV), g.consts.lookup x = some v → ∃ u v', mg x = some u ∧ RelV v' u ∧ ∀ rho H, RV K H rho v v'
  free : ∀ x : Str, g.bltn x = true → mg x = none
  attrs : g.nm.attrs.Nodup
  exc : ∀ (c : Nat) (x : Str) (l : List Nat), g.nm.clss[c]? = some x → g.excs.lookup c = some l → mg x = some (.ref (He.ga K x)) ∧ PySem.W.excIn K (He.ga K x) He.veBase "ValueError.__new__" = true ∧ PySem.W.keepIn K (.ref (He.ga K x)) = true ∧
    PySem.W.subIn K (.ref (He.ga K x)) (.type "BaseException") = some true ∧ PySem.W.typeIn K (.ref (He.ga K x)) = some (.type "type")
  exm : ∀ (c d : Nat) (x y : Str) (l l' : List Nat), g.nm.clss[c]? = some x → g.nm.clss[d]? = some y → g.excs.lookup c = some l → g.excs.lookup d = some l' → PySem.W.exmOne K (.ref (He.ga K x)) (.ref (He.ga K y)) = some (l.contains d)
/-- the context of an expression -/
structure EC (g : GS) (C : CallS) (lv : Nat) (sc : SC) (W : WX) (X : Cx) : Prop where
  nN : X.N = sc.N
  nd : sc.N.Nodup
  scope : X.env.scope = sc.scope
  calm : X.calm = true
  fn : sc.lf = true → ∀ x, X.fn x = true
  room : Room (lv + 1) X.A
  tkN : L2N.Takes X W
  tk : sc.md = false → L2.Takes X W
  gok : GOk g C lv X.prog X.w X.K X.mg X.base
structure LvOk (g : GS) (C : CallS) (lv : Nat) (L : Lv) : Prop where
  e : ∀ (X : Cx) (sc : SC) (W : WX) (e : Expr), EC g C lv sc W X → PE X e (tE X.K g.nm W (L.e sc e))
  t : ∀ (X : Cx) (sc : SC) (W : WX) (e : Expr), EC g C lv sc W X → PT X e (tT X.K g.nm W (L.t sc e))

/-! ### small facts -/
theorem lim_eq : lim = sizeLine := by rw [sizeLine_eq]; rfl
theorem idx_at : ∀ {l : List Str} {x : Str} {i : Nat}, idx x l = some i → l[i]? = some x
  | [], x, i, h => by cases h
  | y :: r, x, i, h => by
    unfold idx at h
    split at h
    · rename_i e
      cases h
      rw [e]; rfl
    · cases q : idx x r with
      | none => rw [q] at h; cases h
      | some j =>
        rw [q] at h
        simp at h
        subst h
        simpa using idx_at q
theorem odd_dbg {x : Str} (h : odd x = false) : (x == ("__debug__" : Str)) = false := by
  unfold odd at h
  simp at h
  simpa using h.1
theorem odd_cls {x : Str} (h : odd x = false) : (x == ("__classdict__" : Str)) = false := by
  unfold odd at h
  simp at h
  simpa using h.2.1
theorem odd_name {x : Str} (h : odd x = false) : x ≠ ("__name__" : Str) := by
  unfold odd at h
  simp at h
  exact h.2.2
theorem slot_of {sc : SC} {x : Str} {i : Nat} (h : sc.slot x = some i) : odd x = false ∧ sc.N[i]? = some x ∧ (sc.scope.names.lookup x = some .local ∨ sc.scope.names.lookup x = some .cell ∨ sc.scope.names.lookup x = some .free) := by
  unfold SC.slot at h
  split at h
  · cases h
  · rename_i ho
    refine ⟨by simpa using ho, ?_⟩
    split at h
    · rename_i e; exact ⟨idx_at h, .inl e⟩
    · rename_i e; exact ⟨idx_at h, .inr (.inl e)⟩
    · rename_i e; exact ⟨idx_at h, .inr (.inr e)⟩
    · cases h
theorem gl_of {sc : SC} {x : Str} (h : sc.gl x = true) : odd x = false ∧ sc.scope.names.lookup x = some .globalImplicit := by
  unfold SC.gl at h
  split at h
  · cases h
  · rename_i ho
    refine ⟨by simpa using ho, ?_⟩
    split at h
    · assumption
    · cases h
section
variable {g : GS} {C : CallS} {lv : Nat} {sc : SC} {W : WX} {X : Cx} {L : Lv}
theorem EC.N (c : EC g C lv sc W X) {i : Nat} {x : Str} (h : sc.N[i]? = some x) : X.N[i]? = some x := by rw [c.nN]; exact h
theorem EC.xnd (c : EC g C lv sc W X) : X.N.Nodup := by rw [c.nN]; exact c.nd
theorem EC.gl (c : EC g C lv sc W X) {x : Str} (h : sc.gl x = true) : Gl X x := by
  show X.env.kindOf x = _
  show X.env.scope.names.lookup x = _
  rw [c.scope]
  exact (gl_of h).2
theorem EC.vis (c : EC g C lv sc W X) {x : Str} {i : Nat} (h : sc.slot x = some i) : Vis X.env.scope x := by
  show X.env.scope.names.lookup x = _ ∨ X.env.scope.names.lookup x = _ ∨ X.env.scope.names.lookup x = _
  rw [c.scope]
  exact (slot_of h).2.2

/-! ### constants and names -/
theorem se_const {c : Const} {k : Nat} {pos : Pos} (E : EC g C lv sc W X) : PE X (.Constant c k pos) (tE X.K g.nm W (stepE g C L sc (.Constant c k pos))) := by
  cases c with
  | none => exact peI pe_non fun σ H Q ⟨rho, sm, h, rs, rl, rt⟩ => rt rho H .non Ex.refl rl rfl
  | bool b => exact peI pe_bl fun σ H Q ⟨rho, sm, h, rs, rl, rt⟩ => rt rho H (.bl b) Ex.refl rl rfl
  | int i => exact peI pe_int fun σ H Q ⟨rho, sm, h, rs, rl, rt⟩ => rt rho H (.int i) Ex.refl rl rfl
  | str x => exact peI pe_str fun σ H Q ⟨rho, sm, h, rs, rl, rt⟩ => rt rho H (.str x) Ex.refl rl (by simp [RV, tl])
  | _ => exact peO fun σ H Q ⟨rho, sm, h, rs, rl, rt⟩ => rt.elim
theorem se_name {x : Str} {pos : Pos} (E : EC g C lv sc W X) : PE X (.Name x pos) (tE X.K g.nm W (stepE g C L sc (.Name x pos))) := by
  refine peO fun σ H Q ⟨rho, sm, h, rs, rl, rt⟩ => ?_
  simp only [stepE] at rt
  cases hs : sc.slot x with
  | some i =>
    rw [hs] at rt
    obtain ⟨o, n, v⟩ := slot_of hs
    refine ⟨_, pe_var (E.N n) (E.vis hs) (odd_dbg o) (odd_cls o), ?_⟩
    dsimp only at rt
    split at rt
    · rename_i y hy
      obtain ⟨v, h1, h2⟩ := rs.2 i y hy
      exact ⟨v, h1, rt rho H v Ex.refl rl h2⟩
    · exact rt.elim
  | none =>
    rw [hs] at rt
    dsimp only at rt
    split at rt
    · rename_i hg
      cases hc : g.consts.lookup x with
      | none => rw [hc] at rt; exact rt.elim
      | some v =>
        rw [hc] at rt
        obtain ⟨u, v', h1, h2, h3⟩ := E.gok.const x v hc
        exact ⟨_, pe_glob (E.gl hg) h1 h2 (odd_dbg (gl_of hg).1), rt rho H v' Ex.refl rl (h3 _ _)⟩
    · exact rt.elim
end
end Mn
end

section
set_option autoImplicit false
set_option linter.all false
set_option maxRecDepth 100000
set_option maxHeartbeats 1000000
/-! the small semantics is sound: operations on values -/
namespace Mn
open PySem PySem.Spec L2
section
variable {K : PySem.W.Frag} {nm : Nm} {W : WX} {σ : L2.St} {rho : List Addr} {H : Hp}
theorem RVs.length : ∀ {xs : List MV} {vs : List V}, RVs K H rho xs vs → xs.length = vs.length
  | [], vs, h => by unfold RVs at h; rw [h]; rfl
  | x :: xs, vs, h => by
    unfold RVs at h
    obtain ⟨v, r, h1, _, h3⟩ := h
    rw [h1, List.length_cons, List.length_cons, RVs.length h3]
theorem RVs.append : ∀ {xs ys : List MV} {vs us : List V}, RVs K H rho xs vs → RVs K H rho ys us → RVs K H rho (xs ++ ys) (vs ++ us)
  | [], ys, vs, us, h, k => by unfold RVs at h; rw [h]; exact k
  | x :: xs, ys, vs, us, h, k => by
    unfold RVs at h
    obtain ⟨v, r, h1, h2, h3⟩ := h
    rw [h1]
    show RVs K H rho (x :: (xs ++ ys)) _
    unfold RVs
    exact ⟨v, r ++ us, rfl, h2, RVs.append h3 k⟩
theorem RVs.one {x : MV} {v : V} (h : RV K H rho x v) : RVs K H rho [x] [v] := by
  unfold RVs
  exact ⟨v, [], rfl, h, by unfold RVs; rfl⟩
theorem RVs.get : ∀ {xs : List MV} {vs : List V} {i : Nat} {x : MV}, RVs K H rho xs vs → xs[i]? = some x → ∃ v, vs[i]? = some v ∧ RV K H rho x v
  | [], vs, i, x, h, e => by simp at e
  | y :: xs, vs, 0, x, h, e => by
    unfold RVs at h
    obtain ⟨v, r, h1, h2, h3⟩ := h
    simp at e
    subst e h1
    exact ⟨v, rfl, h2⟩
  | y :: xs, vs, i + 1, x, h, e => by
    unfold RVs at h
    obtain ⟨v, r, h1, h2, h3⟩ := h
    subst h1
    simpa using RVs.get (i := i) h3 (by simpa using e)
theorem RVs.drop : ∀ {xs : List MV} {vs : List V} (n : Nat), RVs K H rho xs vs → RVs K H rho (xs.drop n) (vs.drop n)
  | xs, vs, 0, h => h
  | [], vs, n + 1, h => by unfold RVs at h; subst h; unfold RVs; rfl
  | x :: xs, vs, n + 1, h => by
    unfold RVs at h
    obtain ⟨v, r, h1, h2, h3⟩ := h
    subst h1
    simpa using RVs.drop n h3
theorem RVs.take : ∀ {xs : List MV} {vs : List V} (n : Nat), RVs K H rho xs vs → RVs K H rho (xs.take n) (vs.take n)
  | xs, vs, 0, h => by simp [RVs]
  | [], vs, n + 1, h => by unfold RVs at h; subst h; unfold RVs; rfl
  | x :: xs, vs, n + 1, h => by
    unfold RVs at h
    obtain ⟨v, r, h1, h2, h3⟩ := h
    subst h1
    show RVs K H rho (x :: xs.take n) (v :: r.take n)
    unfold RVs
    exact ⟨v, _, rfl, h2, RVs.take n h3⟩
theorem RVs.set : ∀ {xs : List MV} {vs : List V} (n : Nat) {x : MV} {v : V}, RVs K H rho xs vs → RV K H rho x v → RVs K H rho (xs.set n x) (vs.set n v)
  | [], vs, n, x, v, h, k => by unfold RVs at h; subst h; simp [RVs]
  | y :: xs, vs, 0, x, v, h, k => by
    unfold RVs at h
    obtain ⟨w, r, h1, h2, h3⟩ := h
    subst h1
    show RVs K H rho (x :: xs) (v :: r)
    unfold RVs
    exact ⟨v, r, rfl, k, h3⟩
  | y :: xs, vs, n + 1, x, v, h, k => by
    unfold RVs at h
    obtain ⟨w, r, h1, h2, h3⟩ := h
    subst h1
    show RVs K H rho (y :: xs.set n x) (w :: r.set n v)
    unfold RVs
    exact ⟨w, _, rfl, h2, RVs.set n h3 k⟩
theorem RVs.eraseIdx : ∀ {xs : List MV} {vs : List V} (n : Nat), RVs K H rho xs vs → RVs K H rho (xs.eraseIdx n) (vs.eraseIdx n)
  | [], vs, n, h => by unfold RVs at h; subst h; simp [RVs]
  | y :: xs, vs, 0, h => by
    unfold RVs at h
    obtain ⟨w, r, h1, h2, h3⟩ := h
    subst h1
    exact h3
  | y :: xs, vs, n + 1, h => by
    unfold RVs at h
    obtain ⟨w, r, h1, h2, h3⟩ := h
    subst h1
    show RVs K H rho (y :: xs.eraseIdx n) (w :: r.eraseIdx n)
    unfold RVs
    exact ⟨w, _, rfl, h2, RVs.eraseIdx n h3⟩
theorem RVs.dropLast {xs : List MV} {vs : List V} (h : RVs K H rho xs vs) : RVs K H rho xs.dropLast vs.dropLast := by
  rw [List.dropLast_eq_take, List.dropLast_eq_take, h.length]
  exact h.take _
theorem RVs.nil' {vs : List V} (h : RVs K H rho [] vs) : vs = [] := by unfold RVs at h; exact h
theorem RVs.cons' {x : MV} {xs : List MV} {vs : List V} (h : RVs K H rho (x :: xs) vs) : ∃ v r, vs = v :: r ∧ RV K H rho x v ∧ RVs K H rho xs r := by unfold RVs at h; exact h
theorem RVs.mk {x : MV} {xs : List MV} {v : V} {r : List V} (h1 : RV K H rho x v) (h2 : RVs K H rho xs r) : RVs K H rho (x :: xs) (v :: r) := by unfold RVs; exact ⟨v, r, rfl, h1, h2⟩
theorem RV.int {i : Int} {v : V} (h : RV K H rho (.int i) v) : v = .int i := by unfold RV at h; exact h
theorem RV.bl {b : Bool} {v : V} (h : RV K H rho (.bl b) v) : v = .bl b := by unfold RV at h; exact h
theorem RV.non {v : V} (h : RV K H rho .non v) : v = .non := by unfold RV at h; exact h
theorem RV.str {s : List Nat} {v : V} (h : RV K H rho (.str s) v) : v = .str ⟨s.toArray⟩ := by unfold RV at h; exact h
theorem RV.tup {xs : List MV} {v : V} (h : RV K H rho (.tup xs) v) : ∃ a vs, v = .ref a ∧ H a = some (.tup vs) ∧ RVs K H rho xs vs := by unfold RV at h; exact h
theorem RV.kt {xs : List MV} {v : V} (h : RV K H rho (.kt xs) v) : ∃ a vs, v = .ref a ∧ KT K a vs ∧ RVs K H rho xs vs := by unfold RV at h; exact h
theorem RV.sq {xs : List MV} {v : V} (h : RV K H rho (.sq xs) v) : ∃ a vs, v = .ref a ∧ SqF K H a vs ∧ RVs K H rho xs vs := by unfold RV at h; exact h
theorem RV.ref {i : Nat} {v : V} (h : RV K H rho (.ref i) v) : ∃ a, rho[i]? = some a ∧ v = .ref a := by unfold RV at h; exact h
theorem Rel.lst {h : MH} {i : Nat} {xs : List MV} {v : V} (R : Rel K nm rho h H) (hi : h[i]? = some (.lst xs)) (hv : RV K H rho (.ref i) v) : ∃ a vs, v = .ref a ∧ rho[i]? = some a ∧ H a = some (.lst vs) ∧ RVs K H rho xs vs := by
  obtain ⟨a, h1, h2⟩ := hv.ref
  obtain ⟨vs, h3, h4⟩ := R.ob i _ a hi h1
  exact ⟨a, vs, h2, h1, h3, h4⟩
theorem Rel.dk {h : MH} {i : Nat} {xs : List (MK × MV)} {v : V} (R : Rel K nm rho h H) (hi : h[i]? = some (.dK xs)) (hv : RV K H rho (.ref i) v) : ∃ a l, v = .ref a ∧ rho[i]? = some a ∧ H a = some (.dK l) ∧ RD K H rho MK.k xs l := by
  obtain ⟨a, h1, h2⟩ := hv.ref
  obtain ⟨vs, h3, h4⟩ := R.ob i _ a hi h1
  exact ⟨a, vs, h2, h1, h3, h4⟩
theorem Rel.ins' {h : MH} {i : Nat} {c : Nat} {fs : List (Nat × MV)} {v : V} (R : Rel K nm rho h H) (hi : h[i]? = some (.ins c fs)) (hv : RV K H rho (.ref i) v) :
    ∃ a dx l, v = .ref a ∧ rho[i]? = some a ∧ H a = some (.ins (He.ga K (nm.cls c)) dx l) ∧ RF K nm H rho fs l := by
  obtain ⟨a, h1, h2⟩ := hv.ref
  obtain ⟨dx, l, h3, h4⟩ := R.ob i _ a hi h1
  exact ⟨a, dx, l, h2, h1, h3, h4⟩
/-- a result as it is -/
theorem RT.now {α β : Type} {R : Hp → List Addr → α → β → Prop} {Q : β → Hp → Prop} {a : α} {b : β} {h : MH} (rt : RT K nm R W σ Q rho H (.ok a h)) (rl : Rel K nm rho h H) (r : R H rho a b) : Q b H := rt rho H b Ex.refl rl r
/-- a new list -/
theorem RT.lst {Q : VK} {h : MH} {xs : List MV} {vs : List V} (rt : RT K nm (relV' K) W σ Q rho H (lay (.lst xs) h)) (rl : Rel K nm rho h H) (r : RVs K H rho xs vs) {p : Addr} (hp : H p = none) : Q (.ref p) (upd H p (.lst vs)) := by
  refine rt (rho ++ [p]) _ _ (Ex.fresh hp) (rl.alloc hp ⟨vs, upd_same, r.mono (Ex.fresh hp)⟩) ?_
  show RV K _ _ (.ref h.length) _
  unfold RV
  exact ⟨p, by rw [← rl.len]; simp, rfl⟩
theorem RT.dk {Q : VK} {h : MH} {xs : List (MK × MV)} {l : List (Key × V)} (rt : RT K nm (relV' K) W σ Q rho H (lay (.dK xs) h)) (rl : Rel K nm rho h H) (r : RD K H rho MK.k xs l) {p : Addr} (hp : H p = none) : Q (.ref p) (upd H p (.dK l)) := by
  refine rt (rho ++ [p]) _ _ (Ex.fresh hp) (rl.alloc hp ⟨l, upd_same, r.mono (Ex.fresh hp)⟩) ?_
  show RV K _ _ (.ref h.length) _
  unfold RV
  exact ⟨p, by rw [← rl.len]; simp, rfl⟩
/-- a new tuple -/
theorem RT.tup {Q : VK} {h : MH} {xs : List MV} {vs : List V} (rt : RT K nm (relV' K) W σ Q rho H (.ok (.tup xs) h)) (rl : Rel K nm rho h H) (r : RVs K H rho xs vs) {p : Addr} (hp : H p = none) : Q (.ref p) (upd H p (.tup vs)) := by
  refine rt rho _ _ (Ex.fresh0 hp) (rl.aside hp) ?_
  show RV K _ _ (.tup xs) _
  unfold RV
  exact ⟨p, vs, rfl, upd_same, r.mono (Ex.fresh0 hp)⟩
end
/-- a two-place operation of the small semantics -/
def rB (K : PySem.W.Frag) (nm : Nm) (F : MH → MV → MV → Res MV) : R2 := fun x y H Q => ∃ rho h mx my W σ, Rel K nm rho h H ∧ RV K H rho mx x ∧ RV K H rho my y ∧ RT K nm (relV' K) W σ Q rho H (F h mx my)

theorem mul_flat (s : List Nat) (i : Int) : Txt.mul ⟨s.toArray⟩ i = ⟨((List.replicate i.toNat s).flatten).toArray⟩ := by
  have fold : ∀ (k : Nat) (acc : Array Nat), (List.replicate k s.toArray).foldl (· ++ ·) acc = acc ++ ((List.replicate k s).flatten).toArray := by
    intro k
    induction k with
    | zero => intro acc; simp
    | succ k ih =>
      intro acc
      rw [List.replicate_succ, List.foldl_cons, ih, List.replicate_succ, List.flatten_cons]
      apply Array.ext'
      simp
  unfold Txt.mul
  by_cases h1 : i < 1
  · rw [if_pos h1]
    have : i.toNat = 0 := by omega
    rw [this]; rfl
  · rw [if_neg h1]
    split
    · rename_i hc
      rw [Bool.or_eq_true, beq_iff_eq, beq_iff_eq] at hc
      rcases hc with h | h
      · subst h
        simp
      · have hs : s = [] := by
          have : s.length = 0 := by simpa [Str.length] using h
          exact List.length_eq_zero_iff.mp this
        subst hs
        simp
    · show (⟨(List.replicate i.toNat s.toArray).foldl (· ++ ·) #[]⟩ : Str) = _
      rw [fold]
      simp
section
variable {g : GS} {C : CallS} {lv : Nat} {sc : SC} {W : WX} {X : Cx} {L : Lv} {nm : Nm}
theorem or_bin {op : Operator} : OpR X (binaryOp op) (rB X.K nm (binM op)) := by
  intro pins s σ H x y v u Q I rx ry ⟨rho, h, mx, my, W, σ', rl, vx, vy, rt⟩
  unfold binM at rt
  split at rt
  · exact op_add pins s σ H x y v u Q I rx ry ⟨_, _, vx.int, vy.int, rt.now rl rfl⟩
  · split at rt
    · rename_i hz
      exact op_add_str pins s σ H x y v u Q I rx ry ⟨_, _, vx.str, vy.str, by rw [lim_eq] at hz; simpa [Str.length] using hz, rt.now rl (by show RV _ _ _ _ _; unfold RV; exact congrArg V.str (SX.S_cat _ _))⟩
    · exact rt.elim
  · split at rt
    · rename_i hz
      obtain ⟨a, xs, rfl, h1, h2⟩ := vx.tup
      obtain ⟨b, ys, rfl, h3, h4⟩ := vy.tup
      have hl1 := h2.length
      have hl2 := h4.length
      refine op_catA pins s σ H _ _ v u Q I rx ry ⟨a, b, xs, ys, rfl, rfl, SqT.of h1, SqT.of h3, by rw [lim_eq] at hz; omega, fun e => ?_, fun _ e => ?_, fun _ _ p hp => rt.tup rl (h2.append h4) hp⟩
      · refine rt.now rl ?_
        have : _ = [] := List.length_eq_zero_iff.mp (hl1.trans (by rw [e]; rfl))
        rw [this]
        exact vy
      · refine rt.now rl ?_
        have : _ = [] := List.length_eq_zero_iff.mp (hl2.trans (by rw [e]; rfl))
        rw [this, List.append_nil]
        exact vx
    · exact rt.elim
  · split at rt
    · rename_i hx hy
      split at rt
      · rename_i hz
        obtain ⟨a, xs, rfl, _, h1, h2⟩ := rl.lst hx vx
        obtain ⟨b, ys, rfl, _, h3, h4⟩ := rl.lst hy vy
        have hl1 := h2.length
        have hl2 := h4.length
        exact op_cat pins s σ H _ _ v u Q I rx ry ⟨a, b, xs, ys, rfl, rfl, h1, h3, by rw [lim_eq] at hz; omega, fun p hp => rt.lst rl (h2.append h4) hp⟩
      · exact rt.elim
    · exact rt.elim
  · exact op_sub pins s σ H x y v u Q I rx ry ⟨_, _, vx.int, vy.int, rt.now rl rfl⟩
  · split at rt
    · rename_i hz
      exact op_mul pins s σ H x y v u Q I rx ry ⟨_, _, vx.int, vy.int, hz, rt.now rl rfl⟩
    · exact rt.elim
  · split at rt
    · rename_i s0 i0 hz
      obtain rfl := vx.str
      obtain rfl := vy.int
      obtain ⟨t, rfl⟩ := rx
      obtain ⟨t', rfl⟩ := ry
      refine PySem.W.KXi.mul (n := s0.length) (by simp [Str.length]) hz.1 hz.2.1 (by have := hz.2.2; omega) fun t2 k _ _ => ?_
      exact ⟨.str (Txt.mul ⟨s0.toArray⟩ i0), H, I.tok _, ⟨_, rfl⟩, rt.now rl (by show RV _ _ _ _ _; unfold RV; rw [mul_flat])⟩
    · exact rt.elim
  · split at rt
    · rename_i hz
      exact op_fdiv pins s σ H x y v u Q I rx ry ⟨_, _, vx.int, vy.int, hz, rt.now rl rfl⟩
    · exact rt.elim
  · split at rt
    · rename_i hz
      exact op_mod pins s σ H x y v u Q I rx ry ⟨_, _, vx.int, vy.int, hz, rt.now rl rfl⟩
    · exact rt.elim
  · split at rt
    · rename_i hz
      exact op_pow pins s σ H x y v u Q I rx ry ⟨_, _, vx.int, vy.int, hz, rt.now rl rfl⟩
    · exact rt.elim
  · exact rt.elim
end
end Mn
end

section
set_option autoImplicit false
set_option linter.all false
set_option maxRecDepth 100000
set_option maxHeartbeats 1000000
/-! the small semantics is sound: comparisons, truth, lengths -/
namespace Mn
open PySem PySem.Spec L2
section
variable {K : PySem.W.Frag} {nm : Nm} {rho : List Addr} {H : Hp}
theorem scal_ok {mx my : MV} {x y : V} {b : Bool} (h : scalEq mx my = some b) (vx : RV K H rho mx x) (vy : RV K H rho my y) : scal x y = true ∧ decide (x = y) = b := by
  unfold scalEq at h
  split at h <;> cases h
  all_goals
    simp only [RV] at vx vy
    subst vx vy
    refine ⟨rfl, ?_⟩
    first
      | rfl
      | simp
theorem depthAll_le {n : Nat} : ∀ {ds : List PyData}, (∀ d ∈ ds, d.depth ≤ n) → PyData.depthAll ds ≤ n
  | [], _ => by simp [PyData.depthAll]
  | d :: ds, h => by
    simp only [PyData.depthAll]
    exact Nat.max_le.mpr ⟨h d List.mem_cons_self, depthAll_le fun x hx => h x (List.mem_cons_of_mem _ hx)⟩
theorem canAll {ds : List PyData} (h : ∀ d ∈ ds, d.canLay0 = true) : PyData.canLayAll0 ds = true := by
  induction ds with
  | nil => rfl
  | cons d ds ih =>
    simp only [PyData.canLayAll0, Bool.and_eq_true]
    exact ⟨h d List.mem_cons_self, ih fun x hx => h x (List.mem_cons_of_mem _ hx)⟩
/-- what is told of a value as data -/
structure DpOk (K : PySem.W.Frag) (H : Hp) (n : Nat) (v : V) (d : PyData) : Prop where
  dp : Dp K H v d
  can : d.canLay0 = true
  dep : d.depth ≤ n
theorem dps_ok {f : MV → Option PyData} {n : Nat} (hf : ∀ x v d, f x = some d → RV K H rho x v → DpOk K H n v d) : ∀ {xs : List MV} {vs : List V} {ds : List PyData}, mapO f xs = some ds → RVs K H rho xs vs →
    DpAll K H vs ds ∧ (∀ d ∈ ds, d.canLay0 = true) ∧ ∀ d ∈ ds, d.depth ≤ n
  | [], vs, ds, h, r => by
    cases h
    rw [r.nil']
    exact ⟨.nil, fun d hd => (nomatch hd), fun d hd => (nomatch hd)⟩
  | x :: xs, vs, ds, h, r => by
    obtain ⟨v, t, rfl, h1, h2⟩ := r.cons'
    unfold mapO at h
    cases hx : f x with
    | none => rw [hx] at h; cases h
    | some d =>
      rw [hx] at h
      cases hm : mapO f xs with
      | none => rw [hm] at h; cases h
      | some es =>
        rw [hm] at h
        cases h
        obtain ⟨a, b, c⟩ := dps_ok hf hm h2
        have z := hf x v d hx h1
        refine ⟨.cons z.dp a, fun e he => ?_, fun e he => ?_⟩
        · rcases List.mem_cons.mp he with e1 | e1
          · rw [e1]; exact z.can
          · exact b e e1
        · rcases List.mem_cons.mp he with e1 | e1
          · rw [e1]; exact z.dep
          · exact c e e1
theorem toD_ok {h : MH} (R : Rel K nm rho h H) : ∀ (n : Nat) (x : MV) (v : V) (d : PyData), toD h n x = some d → RV K H rho x v → DpOk K H n v d
  | 0, x, v, d, e, r => by cases e
  | n + 1, x, v, d, e, r => by
    have ih := toD_ok R n
    have lstc : ∀ {xs : List MV} {vs : List V} {a : Addr}, (mapO (toD h n) xs).map PyData.list = some d → SqL K H a vs → RVs K H rho xs vs → DpOk K H (n + 1) (.ref a) d := by
      intro xs vs a e1 h1 h2
      cases hm : mapO (toD h n) xs with
      | none => rw [hm] at e1; cases e1
      | some ds =>
        rw [hm] at e1
        cases e1
        obtain ⟨p, q, s⟩ := dps_ok ih hm h2
        refine ⟨.lst h1 p, by simp only [PyData.canLay0]; exact canAll q, by simp only [PyData.depth]; exact Nat.succ_le_succ (depthAll_le s)⟩
    have tupc : ∀ {xs : List MV} {vs : List V} {a : Addr}, (mapO (toD h n) xs).map PyData.tuple = some d → SqT K H a vs → RVs K H rho xs vs → DpOk K H (n + 1) (.ref a) d := by
      intro xs vs a e1 h1 h2
      cases hm : mapO (toD h n) xs with
      | none => rw [hm] at e1; cases e1
      | some ds =>
        rw [hm] at e1
        cases e1
        obtain ⟨p, q, s⟩ := dps_ok ih hm h2
        refine ⟨.tup h1 p, by simp only [PyData.canLay0]; exact canAll q, by simp only [PyData.depth]; exact Nat.succ_le_succ (depthAll_le s)⟩
    cases x with
    | non => cases e; rw [r.non]; exact ⟨.non, rfl, Nat.zero_le _⟩
    | bl b => cases e; rw [r.bl]; exact ⟨.bl b, rfl, Nat.zero_le _⟩
    | int i => cases e; rw [r.int]; exact ⟨.int i, rfl, Nat.zero_le _⟩
    | str s =>
      simp only [toD] at e
      split at e
      · rename_i hs
        cases e
        rw [r.str]
        refine ⟨.str _, ?_, Nat.zero_le _⟩
        simp only [PyData.canLay0, PyData.strOk]
        simpa using hs
      · cases e
    | tup xs =>
      obtain ⟨a, vs, rfl, h1, h2⟩ := r.tup
      exact tupc e (SqT.of h1) h2
    | kt xs =>
      obtain ⟨a, vs, rfl, h1, h2⟩ := r.kt
      exact tupc e h1.sq h2
    | sq xs =>
      obtain ⟨a, vs, rfl, h1, h2⟩ := r.sq
      exact lstc e h1.sq h2
    | ref i =>
      simp only [toD] at e
      split at e
      · rename_i xs hi
        obtain ⟨a, vs, rfl, _, h1, h2⟩ := R.lst hi r
        exact lstc e (SqL.of h1) h2
      · cases e
theorem DpOk.shaped {n : Nat} {v : V} {d : PyData} (h : DpOk K H n v d) (hn : n ≤ 64) : SeqAt.shaped d = true := by
  unfold SeqAt.shaped
  rw [h.can, decide_eq_true (Nat.le_trans h.dep hn)]
  rfl
theorem flat_ok {x : MV} {v : V} (h : flatM x = true) (r : RV K H rho x v) : flatV v = true := by
  cases x <;> first
    | (simp only [RV] at r; subst r; rfl)
    | cases h
theorem flats_ok : ∀ {xs : List MV} {vs : List V}, xs.all flatM = true → RVs K H rho xs vs → vs.all flatV = true
  | [], vs, h, r => by rw [r.nil']; rfl
  | x :: xs, vs, h, r => by
    obtain ⟨v, t, rfl, h1, h2⟩ := r.cons'
    rw [List.all_cons, Bool.and_eq_true] at h ⊢
    exact ⟨flat_ok h.1 h1, flats_ok h.2 h2⟩
theorem eqFl_ok {x y : MV} {v u : V} (hx : flatM x = true) (hy : flatM y = true) (r : RV K H rho x v) (q : RV K H rho y u) : eqV v u = eqFl x y := by
  cases x <;> cases hx <;> cases y <;> cases hy
  all_goals
    simp only [RV] at r q
    subst r q
    first
      | rfl
      | exact SX.S_beq_eq
      | simp [eqV, eqFl]
theorem anyFl_ok {x : MV} {v : V} (hx : flatM x = true) (r : RV K H rho x v) : ∀ {ys : List MV} {us : List V}, ys.all flatM = true → RVs K H rho ys us → inV v us = ys.any fun z => eqFl z x
  | [], us, h, q => by rw [q.nil']; rfl
  | y :: ys, us, h, q => by
    obtain ⟨u, t, rfl, h1, h2⟩ := q.cons'
    rw [List.all_cons, Bool.and_eq_true] at h
    show ((eqV u v) || inV v t) = _
    rw [eqFl_ok h.1 hx h1 r, anyFl_ok hx r h.2 h2]
    rfl
end
/-- a comparison of the small semantics -/
def rC (K : PySem.W.Frag) (nm : Nm) (F : MH → MV → MV → Option Bool) : R2 := fun x y H Q => ∃ rho h mx my k, Rel K nm rho h H ∧ RV K H rho mx x ∧ RV K H rho my y ∧ F h mx my = some k ∧ Q (.bl k) H
section
variable {X : Cx} {nm : Nm}
theorem map_not {o : Option Bool} {k : Bool} (h : o.map (!·) = some k) : ∃ b, o = some b ∧ k = !b := by
  cases o with
  | none => cases h
  | some b => cases h; exact ⟨b, rfl, rfl⟩
theorem oc_eq (hu : X.A.units + 65 < cLine) : OpR X (compareOp .Eq) (rC X.K nm eqM) := by
  intro pins s σ H x y v u Q I rx ry ⟨rho, h, mx, my, k, rl, vx, vy, e, q⟩
  unfold eqM at e
  split at e
  · rename_i b hs
    injection e with e
    subst e
    obtain ⟨h1, h2⟩ := scal_ok hs vx vy
    exact op_eq pins s σ H x y v u Q I rx ry ⟨h1, by rw [h2]; exact q⟩
  · split at e
    · rename_i d e' hd he
      injection e with e
      subst e
      have a := toD_ok rl 30 mx x d hd vx
      have b := toD_ok rl 30 my y e' he vy
      exact op_eqD (by omega) pins s σ H x y v u Q I rx ry ⟨d, e', a.dp, b.dp, a.shaped (by decide), b.shaped (by decide), q⟩
    · cases e
theorem oc_ne (hu : X.A.units + 65 < cLine) : OpR X (compareOp .NotEq) (rC X.K nm fun h x y => (eqM h x y).map (!·)) := by
  intro pins s σ H x y v u Q I rx ry ⟨rho, h, mx, my, k, rl, vx, vy, e, q⟩
  obtain ⟨b, e2, rfl⟩ := map_not e
  clear e
  have e := e2
  clear e2
  unfold eqM at e
  split at e
  · rename_i b hs
    injection e with e
    subst e
    obtain ⟨h1, h2⟩ := scal_ok hs vx vy
    exact op_ne pins s σ H x y v u Q I rx ry ⟨h1, by rw [h2]; exact q⟩
  · split at e
    · rename_i d e' hd he
      injection e with e
      subst e
      have a := toD_ok rl 30 mx x d hd vx
      have b := toD_ok rl 30 my y e' he vy
      exact op_neD (by omega) pins s σ H x y v u Q I rx ry ⟨d, e', a.dp, b.dp, a.shaped (by decide), b.shaped (by decide), q⟩
    · cases e
theorem oc_lt : OpR X (compareOp .Lt) (rC X.K nm fun _ x y => ltM x y) := by
  intro pins s σ H x y v u Q I rx ry ⟨rho, h, mx, my, k, rl, vx, vy, e, q⟩
  replace e : ltM mx my = some k := e
  unfold ltM at e
  split at e
  · injection e with e
    subst e
    exact op_lt pins s σ H x y v u Q I rx ry ⟨_, _, vx.int, vy.int, q⟩
  · injection e with e
    subst e
    exact op_lt_str pins s σ H x y v u Q I rx ry ⟨_, _, vx.str, vy.str, q⟩
  · cases e
theorem oc_gt : OpR X (compareOp .Gt) (rC X.K nm fun _ x y => ltM y x) := by
  intro pins s σ H x y v u Q I rx ry ⟨rho, h, mx, my, k, rl, vx, vy, e, q⟩
  replace e : ltM my mx = some k := e
  unfold ltM at e
  split at e
  · injection e with e
    subst e
    exact op_gt pins s σ H x y v u Q I rx ry ⟨_, _, vx.int, vy.int, q⟩
  · injection e with e
    subst e
    exact op_gt_str pins s σ H x y v u Q I rx ry ⟨_, _, vx.str, vy.str, q⟩
  · cases e
theorem oc_le : OpR X (compareOp .LtE) (rC X.K nm fun _ x y => (ltM y x).map (!·)) := by
  intro pins s σ H x y v u Q I rx ry ⟨rho, h, mx, my, k, rl, vx, vy, e, q⟩
  obtain ⟨b, e2, rfl⟩ := map_not e
  clear e
  have e := e2
  clear e2
  unfold ltM at e
  split at e
  · rename_i i j
    injection e with e
    subst e
    refine op_le pins s σ H x y v u Q I rx ry ⟨_, _, vx.int, vy.int, ?_⟩
    have : decide (j ≤ i) = !decide (i < j) := by
      by_cases z : i < j
      · rw [decide_eq_true z, decide_eq_false (by omega)]; rfl
      · rw [decide_eq_false z, decide_eq_true (by omega)]; rfl
    show Q (.bl (decide (j ≤ i))) H
    rw [this]
    exact q
  · injection e with e
    subst e
    exact op_le_str pins s σ H x y v u Q I rx ry ⟨_, _, vx.str, vy.str, q⟩
  · cases e
theorem oc_ge : OpR X (compareOp .GtE) (rC X.K nm fun _ x y => (ltM x y).map (!·)) := by
  intro pins s σ H x y v u Q I rx ry ⟨rho, h, mx, my, k, rl, vx, vy, e, q⟩
  obtain ⟨b, e2, rfl⟩ := map_not e
  clear e
  have e := e2
  clear e2
  unfold ltM at e
  split at e
  · rename_i i j
    injection e with e
    subst e
    refine op_ge pins s σ H x y v u Q I rx ry ⟨_, _, vx.int, vy.int, ?_⟩
    have : decide (j ≤ i) = !decide (i < j) := by
      by_cases z : i < j
      · rw [decide_eq_true z, decide_eq_false (by omega)]; rfl
      · rw [decide_eq_false z, decide_eq_true (by omega)]; rfl
    show Q (.bl (decide (j ≤ i))) H
    rw [this]
    exact q
  · injection e with e
    subst e
    exact op_ge_str pins s σ H x y v u Q I rx ry ⟨_, _, vx.str, vy.str, q⟩
  · cases e
theorem is_ok {K : PySem.W.Frag} {rho : List Addr} {H : Hp} {mx my : MV} {x y : V} {k : Bool} (e : isM mx my = some k) (vx : RV K H rho mx x) (vy : RV K H rho my y) :
    (y = .non ∧ decide (x = .non) = k) ∨ ∃ a b, x = .bl a ∧ y = .bl b ∧ decide (a = b) = k := by
  unfold isM at e
  split at e
  · injection e with e; subst e; rw [vx.non, vy.non]; exact .inl ⟨rfl, rfl⟩
  · injection e with e; subst e; rw [vx.bl, vy.bl]; exact .inr ⟨_, _, rfl, rfl, rfl⟩
  · injection e with e; subst e; rw [vx.bl, vy.non]; exact .inl ⟨rfl, rfl⟩
  · injection e with e; subst e; rw [vx.int, vy.non]; exact .inl ⟨rfl, rfl⟩
  · injection e with e; subst e; rw [vx.str, vy.non]; exact .inl ⟨rfl, rfl⟩
  · injection e with e; subst e; obtain ⟨_, _, rfl, _⟩ := vx.tup; rw [vy.non]; exact .inl ⟨rfl, rfl⟩
  · injection e with e; subst e; obtain ⟨_, _, rfl⟩ := vx.ref; rw [vy.non]; exact .inl ⟨rfl, rfl⟩
  · injection e with e; subst e; obtain ⟨_, _, rfl, _⟩ := vx.sq; rw [vy.non]; exact .inl ⟨rfl, rfl⟩
  · injection e with e; subst e; obtain ⟨_, _, rfl, _⟩ := vx.kt; rw [vy.non]; exact .inl ⟨rfl, rfl⟩
  · cases e
theorem oc_is : OpR X (compareOp .Is) (rC X.K nm fun _ x y => isM x y) := by
  intro pins s σ H x y v u Q I rx ry ⟨rho, h, mx, my, k, rl, vx, vy, e, q⟩
  rcases is_ok e vx vy with ⟨h1, h2⟩ | ⟨a, b, h1, h2, h3⟩
  · exact op_isN pins s σ H x y v u Q I rx ry ⟨h1, by rw [h2]; exact q⟩
  · exact op_is_bl pins s σ H x y v u Q I rx ry ⟨a, b, h1, h2, by rw [h3]; exact q⟩
theorem oc_isnot : OpR X (compareOp .IsNot) (rC X.K nm fun _ x y => (isM x y).map (!·)) := by
  intro pins s σ H x y v u Q I rx ry ⟨rho, h, mx, my, k, rl, vx, vy, e, q⟩
  obtain ⟨b, e2, rfl⟩ := map_not e
  clear e
  have e := e2
  clear e2
  rcases is_ok e vx vy with ⟨h1, h2⟩ | ⟨a, b, h1, h2, h3⟩
  · exact op_notN pins s σ H x y v u Q I rx ry ⟨h1, by rw [h2]; exact q⟩
  · exact op_isnot_bl pins s σ H x y v u Q I rx ry ⟨a, b, h1, h2, by rw [h3]; exact q⟩
/-- what in says: a sign in a text, a text in a text, a flat value among flat ones, data in a list of data -/
theorem in_ok {K : PySem.W.Frag} {rho : List Addr} {h : MH} {H : Hp} {mx my : MV} {x y : V} {k : Bool} (rl : Rel K nm rho h H) (e : inM h mx my = some k) (vx : RV K H rho mx x) (vy : RV K H rho my y) :
    (∃ (c : Nat) (z : Str), x = .str ⟨#[c]⟩ ∧ y = .str z ∧ decide (c ∈ z.cps.toList) = k) ∨
    (∃ i j, x = .str i ∧ y = .str j ∧ (!(Builtin.Str.occurrences j i 0 j.length 1).isEmpty) = k) ∨
    (∃ p xs, y = .ref p ∧ (SqL K H p xs ∨ SqT K H p xs) ∧ flatV x = true ∧ xs.all flatV = true ∧ inV x xs = k) ∨
    (∃ d ds, Dp K H x d ∧ Dp K H y (.list ds) ∧ SeqAt.shaped d = true ∧ SeqAt.shaped (.list ds) = true ∧ (ds.any fun z => PyData.eqv z d) = k) := by
  unfold inM at e
  have flat : ∀ {ys : List MV} {us : List V} {p : Addr}, (if (flatM mx && ys.all flatM) = true then some (ys.any fun z => eqFl z mx) else none) = some k → y = .ref p → (SqL K H p us ∨ SqT K H p us) → RVs K H rho ys us →
      ∃ p xs, y = .ref p ∧ (SqL K H p xs ∨ SqT K H p xs) ∧ flatV x = true ∧ xs.all flatV = true ∧ inV x xs = k := by
    intro ys us p e1 h1 h2 h3
    split at e1
    · rename_i hf
      rw [Bool.and_eq_true] at hf
      injection e1 with e1
      exact ⟨p, us, h1, h2, flat_ok hf.1 vx, flats_ok hf.2 h3, by rw [anyFl_ok hf.1 vx hf.2 h3]; exact e1⟩
    · cases e1
  split at e
  · split at e
    · injection e with e
      exact .inl ⟨_, _, vx.str, vy.str, by simpa using e⟩
    · injection e with e
      refine .inr (.inl ⟨_, _, vx.str, vy.str, ?_⟩)
      have : ∀ t : List Nat, (⟨t.toArray⟩ : Str).length = t.length := fun t => by simp [Str.length]
      rw [this]
      exact e
    · cases e
  · obtain ⟨a, vs, h0, h1, h2⟩ := vy.tup
    exact .inr (.inr (.inl (flat e h0 (.inr (SqT.of h1)) h2)))
  · obtain ⟨a, vs, h0, h1, h2⟩ := vy.kt
    exact .inr (.inr (.inl (flat e h0 (.inr h1.sq) h2)))
  · obtain ⟨a, vs, h0, h1, h2⟩ := vy.sq
    exact .inr (.inr (.inl (flat e h0 (.inl h1.sq) h2)))
  · split at e
    · rename_i ys hi
      obtain ⟨a, vs, h0, _, h1, h2⟩ := rl.lst hi vy
      split at e
      · rename_i hf
        exact .inr (.inr (.inl (flat (by rw [if_pos hf]; exact e) h0 (.inl (SqL.of h1)) h2)))
      · split at e
        · rename_i d ds hd hds
          injection e with e
          have a' := toD_ok rl 30 mx x d hd vx
          obtain ⟨p1, p2, p3⟩ := dps_ok (toD_ok rl 29) hds h2
          refine .inr (.inr (.inr ⟨d, ds, a'.dp, ?_, a'.shaped (by decide), ?_, e⟩))
          · rw [h0]; exact .lst (SqL.of h1) p1
          · unfold SeqAt.shaped
            rw [show (PyData.list ds).canLay0 = true by simp only [PyData.canLay0]; exact canAll p2, decide_eq_true (by simp only [PyData.depth]; have := depthAll_le p3; omega)]
            rfl
        · cases e
    · cases e
  · cases e
theorem oc_in (hu : X.A.units + 65 < cLine) : OpR X (compareOp .In) (rC X.K nm inM) := by
  intro pins s σ H x y v u Q I rx ry ⟨rho, h, mx, my, k, rl, vx, vy, e, q⟩
  rcases in_ok rl e vx vy with ⟨c, z, h1, h2, h3⟩ | ⟨i, j, h1, h2, h3⟩ | ⟨p, xs, h1, h2, h3, h4, h5⟩ | ⟨d, ds, h1, h2, h3, h4, h5⟩
  · exact op_in_sign pins s σ H x y v u Q I rx ry ⟨c, z, h1, h2, by rw [h3]; exact q⟩
  · exact op_in_str pins s σ H x y v u Q I rx ry ⟨i, j, h1, h2, by rw [h3]; exact q⟩
  · exact op_in_seq pins s σ H x y v u Q I rx ry ⟨p, xs, h1, h2, h3, h4, by rw [if_neg (by decide), h5]; exact q⟩
  · exact op_inD hu pins s σ H x y v u Q I rx ry ⟨d, ds, h1, h2, h3, h4, by rw [h5]; exact q⟩
theorem oc_notin (hu : X.A.units + 65 < cLine) : OpR X (compareOp .NotIn) (rC X.K nm fun h x y => (inM h x y).map (!·)) := by
  intro pins s σ H x y v u Q I rx ry ⟨rho, h, mx, my, k, rl, vx, vy, e, q⟩
  obtain ⟨b, e2, rfl⟩ := map_not e
  clear e
  have e := e2
  clear e2
  rcases in_ok rl e vx vy with ⟨c, z, h1, h2, h3⟩ | ⟨i, j, h1, h2, h3⟩ | ⟨p, xs, h1, h2, h3, h4, h5⟩ | ⟨d, ds, h1, h2, h3, h4, h5⟩
  · exact op_notIn_sign pins s σ H x y v u Q I rx ry ⟨c, z, h1, h2, by rw [h3]; exact q⟩
  · exact op_notin_str pins s σ H x y v u Q I rx ry ⟨i, j, h1, h2, by rw [h3]; exact q⟩
  · exact op_notIn_seq pins s σ H x y v u Q I rx ry ⟨p, xs, h1, h2, h3, h4, by rw [if_pos rfl, h5]; exact q⟩
  · exact op_notInD hu pins s σ H x y v u Q I rx ry ⟨d, ds, h1, h2, h3, h4, by rw [h5]; exact q⟩
theorem or_cmp (hu : X.A.units + 65 < cLine) : ∀ {op : CmpOp}, OpR X (compareOp op) (rC X.K nm (cmpM op))
  | .Eq => oc_eq hu
  | .NotEq => oc_ne hu
  | .Lt => oc_lt
  | .LtE => oc_le
  | .Gt => oc_gt
  | .GtE => oc_ge
  | .Is => oc_is
  | .IsNot => oc_isnot
  | .In => oc_in hu
  | .NotIn => oc_notin hu
/-- truth -/
theorem RD.isEmpty {K : PySem.W.Frag} {H : Hp} {rho : List Addr} {κ κ' : Type} {kf : κ → κ'} {l : List (κ × MV)} {t : List (κ' × V)} (h : RD K H rho kf l t) : l.isEmpty = t.isEmpty := by
  cases l with
  | nil => unfold RD at h; rw [h]; rfl
  | cons p r =>
    obtain ⟨k, x⟩ := p
    unfold RD at h
    obtain ⟨v, t', h1, _⟩ := h
    rw [h1]; rfl
theorem RVs.isEmpty {K : PySem.W.Frag} {H : Hp} {rho : List Addr} {xs : List MV} {vs : List V} (h : RVs K H rho xs vs) : xs.isEmpty = vs.isEmpty := by
  cases xs with
  | nil => rw [h.nil']; rfl
  | cons x xs => obtain ⟨v, t, rfl, _⟩ := h.cons'; rfl
theorem truth_ok {K : PySem.W.Frag} {rho : List Addr} {h : MH} {H : Hp} {x : MV} {v : V} {b : Bool} (rl : Rel K nm rho h H) (e : truth h x = some b) (r : RV K H rho x v) : TruV K v H b := by
  cases x with
  | non => cases e; rw [r.non]; rfl
  | bl c => cases e; rw [r.bl]; rfl
  | int i => cases e; rw [r.int]; rfl
  | str s =>
    simp only [truth] at e
    split at e
    · rename_i hs
      injection e with e
      rw [r.str]
      refine ⟨by rw [lim_eq] at hs; simpa [Str.length] using hs, ?_⟩
      rw [← e]
      cases s <;> simp [Str.length]
      omega
    · cases e
  | tup xs =>
    obtain ⟨a, vs, rfl, h1, h2⟩ := r.tup
    simp only [truth, Option.some.injEq] at e
    exact .inr (.inl ⟨vs, SqT.of h1, by rw [← h2.isEmpty]; exact e.symm⟩)
  | kt xs =>
    obtain ⟨a, vs, rfl, h1, h2⟩ := r.kt
    simp only [truth, Option.some.injEq] at e
    exact .inr (.inl ⟨vs, h1.sq, by rw [← h2.isEmpty]; exact e.symm⟩)
  | sq xs =>
    obtain ⟨a, vs, rfl, h1, h2⟩ := r.sq
    simp only [truth, Option.some.injEq] at e
    exact .inl ⟨vs, h1.sq, by rw [← h2.isEmpty]; exact e.symm⟩
  | ref i =>
    simp only [truth] at e
    split at e
    · rename_i xs hi
      obtain ⟨a, vs, rfl, _, h1, h2⟩ := rl.lst hi r
      injection e with e
      exact .inl ⟨vs, SqL.of h1, by rw [← h2.isEmpty]; exact e.symm⟩
    · rename_i kvs hi
      obtain ⟨a, l, rfl, _, h1, h2⟩ := rl.dk hi r
      injection e with e
      exact .inr (.inr ⟨l, h1, by rw [← h2.isEmpty]; exact e.symm⟩)
    · cases e
end
end Mn
end

section
set_option autoImplicit false
set_option linter.all false
set_option maxRecDepth 100000
set_option maxHeartbeats 1000000
/-! the small semantics is sound: subscripts, slices, built-ins, methods -/
namespace Mn
open PySem PySem.Spec L2
section
variable {K : PySem.W.Frag} {nm : Nm} {rho : List Addr} {H : Hp}
theorem atI_ok {xs : List MV} {vs : List V} {i : Int} {z : MV} (h : atI xs i = some z) (r : RVs K H rho xs vs) : ∃ v, atI vs i = some v ∧ RV K H rho z v := by
  unfold atI at h ⊢
  rw [← r.length]
  cases q : ixN xs.length i with
  | none => rw [q] at h; cases h
  | some j =>
    rw [q] at h
    obtain ⟨v, h1, h2⟩ := r.get (i := j) (show xs[j]? = some z from h)
    exact ⟨v, h1, h2⟩
theorem ixM_ok {h : MH} {mx my z : MV} {x y : V} {Q : VK} (rl : Rel K nm rho h H) (hd : isDict h mx = false) (e : ixM h mx my = some z) (vx : RV K H rho mx x) (vy : RV K H rho my y) (q : ∀ v, RV K H rho z v → Q v H) : rIx K x y H Q := by
  unfold ixM at e
  split at e
  · split at e
    · rename_i xs hi
      split at e
      · rename_i i
        obtain ⟨a, vs, rfl, _, h1, h2⟩ := rl.lst hi vx
        obtain ⟨v, h3, h4⟩ := atI_ok e h2
        exact .inl ⟨a, vs, i, v, rfl, vy.int, SqL.of h1, h3, q v h4⟩
      · cases e
    · rename_i kvs hi
      simp [isDict, hi] at hd
    · cases e
  · obtain ⟨a, vs, rfl, h1, h2⟩ := vx.tup
    obtain ⟨v, h3, h4⟩ := atI_ok e h2
    exact .inr (.inl ⟨a, vs, _, v, rfl, vy.int, SqT.of h1, h3, q v h4⟩)
  · obtain ⟨a, vs, rfl, h1, h2⟩ := vx.kt
    obtain ⟨v, h3, h4⟩ := atI_ok e h2
    exact .inr (.inl ⟨a, vs, _, v, rfl, vy.int, h1.sq, h3, q v h4⟩)
  · obtain ⟨a, vs, rfl, h1, h2⟩ := vx.sq
    obtain ⟨v, h3, h4⟩ := atI_ok e h2
    exact .inl ⟨a, vs, _, v, rfl, vy.int, h1.sq, h3, q v h4⟩
  · split at e
    · rename_i s i hs
      cases hc : atI s i with
      | none => rw [hc] at e; cases e
      | some c =>
        rw [hc] at e
        cases e
        refine .inr (.inr ⟨_, _, c, vx.str, vy.int, by rw [lim_eq] at hs; simpa [Str.length] using hs, by simpa using hc, q _ ?_⟩)
        unfold RV; rfl
    · cases e
  · cases e
theorem cutV_ok {xs : List MV} {vs : List V} (r : RVs K H rho xs vs) (lo hi : Option Int) : RVs K H rho (cutL xs lo hi) (cutV vs lo hi) := by
  unfold cutL cutV
  rw [← r.length]
  exact (r.drop _).take _
end
section
variable {X : Cx} {nm : Nm}
def rSlM (K : PySem.W.Frag) (nm : Nm) : V → Option Int → Option Int → Hp → VK → Prop := fun x lo hi H Q => ∃ rho h mx W σ, Rel K nm rho h H ∧ RV K H rho mx x ∧ RT K nm (relV' K) W σ Q rho H (slM h mx lo hi)
theorem sl_m : SlR X (rSlM X.K nm) := by
  have base : SlR X (fun x lo hi H Q => (C8.rSlX x lo hi H Q ∨ rSlA X.K x lo hi H Q) ∨ rSlL X.K x lo hi H Q) := SlR.or (SlR.or C8.sl_txt sl_tupA) sl_list
  intro pins s σ H x v vl vu lo hi sl Q I rx r2 r3 r4 h
  refine base pins s σ H x v vl vu lo hi sl Q I rx r2 r3 r4 ?_
  obtain ⟨rho, h, mx, W, σ', rl, vx, rt⟩ := h
  unfold slM at rt
  split at rt
  · split at rt
    · rename_i t hs
      refine .inl (.inl ⟨_, vx.str, by rw [lim_eq] at hs; simpa [Str.length] using hs, rt.now rl ?_⟩)
      show RV _ _ _ _ _
      unfold RV
      rw [← C8.cutS_slice]
      unfold cutS cutL
      simp [Str.length]
    · exact rt.elim
  · rename_i xs
    obtain ⟨a, vs, rfl, h1, h2⟩ := vx.tup
    refine .inl (.inr ⟨a, vs, rfl, SqT.of h1, fun ⟨e1, e2⟩ => ?_, fun _ p hp => rt.tup rl (cutV_ok h2 _ _) hp⟩)
    refine rt.now rl ?_
    show RV _ _ _ _ _
    have e : cutL xs lo hi = xs := by
      unfold cutL
      rw [h2.length, e1, e2, ← h2.length]
      simp
    rw [e]
    exact vx
  · obtain ⟨a, vs, rfl, h1, h2⟩ := vx.sq
    exact .inr ⟨a, vs, rfl, h1.sq, fun p hp => rt.lst rl (cutV_ok h2 _ _) hp⟩
  · split at rt
    · rename_i xs hi
      obtain ⟨a, vs, rfl, _, h1, h2⟩ := rl.lst hi vx
      exact .inr ⟨a, vs, rfl, SqL.of h1, fun p hp => rt.lst rl (cutV_ok h2 _ _) hp⟩
    · exact rt.elim
  · exact rt.elim
end

/-! ### texts -/
section
variable {K : PySem.W.Frag} {nm : Nm} {rho : List Addr} {H : Hp}
theorem RVs.texts : ∀ {ss : List (List Nat)} {vs : List V}, RVs K H rho (ss.map .str) vs → vs = ss.map fun s => V.str ⟨s.toArray⟩
  | [], vs, h => by simpa using h.nil'
  | s :: ss, vs, h => by
    obtain ⟨v, r, rfl, h1, h2⟩ := h.cons'
    rw [h1.str, RVs.texts h2]
    rfl
theorem RVs.of_texts : ∀ (ss : List (List Nat)), RVs K H rho (ss.map .str) (ss.map fun s => V.str ⟨s.toArray⟩)
  | [] => by simp [RVs]
  | s :: ss => RVs.mk (by unfold RV; rfl) (RVs.of_texts ss)
theorem RVs.ints : ∀ {ns : List Int} {vs : List V}, RVs K H rho (ns.map .int) vs → vs = ns.map V.int
  | [], vs, h => by simpa using h.nil'
  | s :: ss, vs, h => by
    obtain ⟨v, r, rfl, h1, h2⟩ := h.cons'
    rw [h1.int, RVs.ints h2]
    rfl
theorem RVs.of_ints : ∀ (ns : List Int), RVs K H rho (ns.map .int) (ns.map V.int)
  | [] => by simp [RVs]
  | s :: ss => RVs.mk (by unfold RV; rfl) (RVs.of_ints ss)
theorem intsM_eq : ∀ {xs : List MV} {ns : List Int}, intsM xs = some ns → xs = ns.map .int
  | [], ns, h => by cases h; rfl
  | x :: xs, ns, h => by
    cases x <;> try (cases h; done)
    rename_i i
    unfold intsM at h
    cases q : intsM xs with
    | none => rw [q] at h; cases h
    | some t =>
      rw [q] at h
      cases h
      rw [intsM_eq q]; rfl
theorem strsM_eq : ∀ {xs : List MV} {ns : List (List Nat)}, strsM xs = some ns → xs = ns.map .str
  | [], ns, h => by cases h; rfl
  | x :: xs, ns, h => by
    cases x <;> try (cases h; done)
    rename_i i
    unfold strsM at h
    cases q : strsM xs with
    | none => rw [q] at h; cases h
    | some t =>
      rw [q] at h
      cases h
      rw [strsM_eq q]; rfl
theorem joinM_eq (a : List Nat) : ∀ ys : List (List Nat), joinM a ys = TL.joinL a ys
  | [] => rfl
  | [_] => rfl
  | x :: y :: r => by
    show x ++ a ++ joinM a (y :: r) = x ++ (a ++ TL.joinL a (y :: r))
    rw [joinM_eq a (y :: r), List.append_assoc]
theorem texts_map (l : List Str) : l.map (fun z => MV.str (tl z)) = (l.map tl).map .str := by simp
theorem of_strs (l : List Str) : RVs K H rho (l.map fun z => .str (tl z)) (l.map V.str) := by
  have := RVs.of_texts (K := K) (H := H) (rho := rho) (l.map tl)
  simp only [List.map_map] at this
  refine Eq.mp ?_ this
  congr 1
end
/-! ### sorting -/
theorem perm_same {α : Type} {le : α → α → Prop} (anti : ∀ x y, le x y → le y x → x = y) {a b : List α} (hp : a.Perm b) (ha : a.Pairwise le) (hb : b.Pairwise le) : a = b :=
  hp.eq_of_pairwise (fun x y _ _ h1 h2 => anti x y h1 h2) ha hb
theorem insI_perm (x : Int) : ∀ l : List Int, (insI x l).Perm (x :: l)
  | [] => .refl _
  | y :: r => by
    unfold insI
    split
    · exact .refl _
    · exact ((insI_perm x r).cons y).trans (.swap x y r)
theorem sortI_perm : ∀ l : List Int, (sortI l).Perm l
  | [] => .refl _
  | x :: r => (insI_perm x (sortI r)).trans ((sortI_perm r).cons x)
theorem insI_pw (x : Int) : ∀ l : List Int, l.Pairwise (· ≤ ·) → (insI x l).Pairwise (· ≤ ·)
  | [], _ => by simp [insI]
  | y :: r, h => by
    unfold insI
    split
    · rename_i hxy
      refine List.pairwise_cons.mpr ⟨fun z hz => ?_, h⟩
      rcases List.mem_cons.mp hz with e | e
      · rw [e]; exact hxy
      · exact Int.le_trans hxy ((List.pairwise_cons.mp h).1 z e)
    · rename_i hxy
      refine List.pairwise_cons.mpr ⟨fun z hz => ?_, insI_pw x r (List.pairwise_cons.mp h).2⟩
      rcases List.mem_cons.mp ((insI_perm x r).mem_iff.mp hz) with e | e
      · rw [e]; omega
      · exact (List.pairwise_cons.mp h).1 z e
theorem sortI_pw : ∀ l : List Int, (sortI l).Pairwise (· ≤ ·)
  | [] => List.Pairwise.nil
  | x :: r => insI_pw x _ (sortI_pw r)
theorem insS_perm (x : List Nat) : ∀ l : List (List Nat), (insS x l).Perm (x :: l)
  | [] => .refl _
  | y :: r => by
    unfold insS
    split
    · exact .refl _
    · exact ((insS_perm x r).cons y).trans (.swap x y r)
theorem sortS_perm : ∀ l : List (List Nat), (sortS l).Perm l
  | [] => .refl _
  | x :: r => (insS_perm x (sortS r)).trans ((sortS_perm r).cons x)
theorem insS_pw (x : List Nat) : ∀ l : List (List Nat), l.Pairwise (· ≤ ·) → (insS x l).Pairwise (· ≤ ·)
  | [], _ => by simp [insS]
  | y :: r, h => by
    unfold insS
    split
    · rename_i hxy
      refine List.pairwise_cons.mpr ⟨fun z hz => ?_, h⟩
      rcases List.mem_cons.mp hz with e | e
      · rw [e]; exact hxy
      · exact List.le_trans hxy ((List.pairwise_cons.mp h).1 z e)
    · rename_i hxy
      refine List.pairwise_cons.mpr ⟨fun z hz => ?_, insS_pw x r (List.pairwise_cons.mp h).2⟩
      rcases List.mem_cons.mp ((insS_perm x r).mem_iff.mp hz) with e | e
      · rw [e]
        exact (List.le_total y x).resolve_right hxy
      · exact (List.pairwise_cons.mp h).1 z e
theorem sortS_pw : ∀ l : List (List Nat), (sortS l).Pairwise (· ≤ ·)
  | [] => List.Pairwise.nil
  | x :: r => insS_pw x _ (sortS_pw r)
theorem sortI_of {a b : List Int} (hp : a.Perm b) (ha : a.Pairwise (· ≤ ·)) : a = sortI b :=
  perm_same (fun x y h1 h2 => Int.le_antisymm h1 h2) (hp.trans (sortI_perm b).symm) ha (sortI_pw b)
theorem rising_pw : ∀ (l : List Str) (p : Str), PyProof.Rows.risingS p l = true → (p :: l).Pairwise fun x y => x.cps.toList ≤ y.cps.toList
  | [], p, _ => by simp
  | x :: r, p, h => by
    unfold PyProof.Rows.risingS at h
    rw [Bool.and_eq_true] at h
    have ih := rising_pw r x h.2
    have hpx : p.cps.toList ≤ x.cps.toList := by
      have h1 := h.1
      rw [PyProof.Rows.ltCps_eq, Bool.not_eq_true', decide_eq_false_iff_not] at h1
      exact List.not_lt.mp h1
    refine List.pairwise_cons.mpr ⟨fun z hz => ?_, ih⟩
    rcases List.mem_cons.mp hz with e | e
    · rw [e]; exact hpx
    · exact List.le_trans hpx ((List.pairwise_cons.mp ih).1 z e)
theorem sortedS_pw {l : List Str} (h : PyProof.Rows.sortedS l = true) : l.Pairwise fun x y => x.cps.toList ≤ y.cps.toList := by
  cases l with
  | nil => exact List.Pairwise.nil
  | cons x r => exact rising_pw r x h
theorem sortS_of {ys : List Str} {ks : List (List Nat)} (hp : ys.Perm (ks.map fun s => (⟨s.toArray⟩ : Str))) (ha : PyProof.Rows.sortedS ys = true) : ys = (sortS ks).map fun s => (⟨s.toArray⟩ : Str) := by
  have h1 := sortedS_pw ha
  have hm : ∀ l : List (List Nat), (l.map fun s => (⟨s.toArray⟩ : Str)).map (fun z => z.cps.toList) = l := fun l => by
    rw [List.map_map]
    have : ((fun z : Str => z.cps.toList) ∘ fun s : List Nat => (⟨s.toArray⟩ : Str)) = id := by
      funext z
      simp
    rw [this, List.map_id]
  have e : ys.map (fun z => z.cps.toList) = sortS ks := by
    refine perm_same (le := fun a b : List Nat => a ≤ b) (fun x y h1 h2 => List.le_antisymm h1 h2) ?_ (List.pairwise_map.mpr h1) (sortS_pw ks)
    refine (hp.map (fun z : Str => z.cps.toList)).trans ?_
    rw [hm]
    exact (sortS_perm ks).symm
  rw [← e, List.map_map]
  have : ((fun s : List Nat => (⟨s.toArray⟩ : Str)) ∘ fun z : Str => z.cps.toList) = id := by
    funext z
    simp
  rw [this, List.map_id]
end Mn
end

section
set_option autoImplicit false
set_option linter.all false
set_option maxRecDepth 100000
set_option maxHeartbeats 1000000
/-! the small semantics is sound: built-ins and methods by values -/
namespace Mn
open PySem PySem.Spec L2
section
variable {K : PySem.W.Frag} {nm : Nm} {rho : List Addr} {H : Hp}
theorem seq_ok {h : MH} {x : MV} {xs : List MV} {v : V} (rl : Rel K nm rho h H) (e : seqOf h x = some xs) (r : RV K H rho x v) : ∃ a vs, v = .ref a ∧ (SqL K H a vs ∨ SqT K H a vs) ∧ RVs K H rho xs vs := by
  unfold seqOf at e
  split at e
  · injection e with e; subst e; obtain ⟨a, vs, h0, h1, h2⟩ := r.tup; exact ⟨a, vs, h0, .inr (SqT.of h1), h2⟩
  · injection e with e; subst e; obtain ⟨a, vs, h0, h1, h2⟩ := r.sq; exact ⟨a, vs, h0, .inl h1.sq, h2⟩
  · injection e with e; subst e; obtain ⟨a, vs, h0, h1, h2⟩ := r.kt; exact ⟨a, vs, h0, .inr h1.sq, h2⟩
  · split at e
    · rename_i ys hi
      injection e with e
      subst e
      obtain ⟨a, vs, h0, _, h1, h2⟩ := rl.lst hi r
      exact ⟨a, vs, h0, .inl (SqL.of h1), h2⟩
    · cases e
  · cases e
theorem RD.len {κ κ' : Type} {kf : κ → κ'} : ∀ {l : List (κ × MV)} {t : List (κ' × V)}, RD K H rho kf l t → l.length = t.length
  | [], t, h => by unfold RD at h; rw [h]; rfl
  | (k, x) :: r, t, h => by
    unfold RD at h
    obtain ⟨v, t', h1, _, h3⟩ := h
    rw [h1, List.length_cons, List.length_cons, RD.len h3]
theorem RD.keysS : ∀ {l : List (MK × MV)} {t : List (Key × V)} {ks : List (List Nat)}, RD K H rho MK.k l t → keysS l = some ks → t.map (·.1) = (ks.map fun s => (⟨s.toArray⟩ : Str)).map Sum.inr
  | [], t, ks, h, e => by unfold RD at h; cases e; rw [h]; rfl
  | (k, x) :: r, t, ks, h, e => by
    unfold RD at h
    obtain ⟨v, t', rfl, _, h3⟩ := h
    cases k with
    | i n => cases e
    | s l =>
      unfold Mn.keysS at e
      cases q : Mn.keysS r with
      | none => rw [q] at e; cases e
      | some ts =>
        rw [q] at e
        cases e
        have ih := RD.keysS h3 q
        show Sum.inr _ :: _ = Sum.inr _ :: _
        rw [ih]
theorem k_inj {a b : MK} (h : a.k = b.k) : a = b := by
  cases a with
  | i n => cases b with
    | i m => exact congrArg MK.i (Sum.inl.inj h)
    | s l => cases h
  | s l => cases b with
    | i m => cases h
    | s l' => exact congrArg MK.s (by have := Sum.inr.inj h; injection this with h1; injection h1)
theorem k1_ok {x : MV} {q : MK} {v : V} (e : k1 x = some q) (r : RV K H rho x v) : v = kV q.k := by
  cases x <;> cases e
  · exact r.int
  · exact r.str
theorem RD.get {κ κ' : Type} [DecidableEq κ] [DecidableEq κ'] {kf : κ → κ'} (inj : ∀ a b, kf a = kf b → a = b) : ∀ {l : List (κ × MV)} {t : List (κ' × V)} (k : κ), RD K H rho kf l t →
    (∀ x, dget l k = some x → ∃ v, valV t (kf k) = some v ∧ RV K H rho x v) ∧ (dget l k = none → valV t (kf k) = none)
  | [], t, k, h => by
    unfold RD at h
    subst h
    exact ⟨fun x e => (nomatch e), fun _ => rfl⟩
  | (k', x') :: r, t, k, h => by
    unfold RD at h
    obtain ⟨v, t', rfl, h2, h3⟩ := h
    have ih := RD.get inj k h3
    by_cases e : k' = k
    · subst e
      refine ⟨fun x hx => ?_, fun hx => ?_⟩
      · have : x' = x := by simpa [dget] using hx
        subst this
        exact ⟨v, by simp [valV], h2⟩
      · simp [dget] at hx
    · have e2 : ¬ kf k' = kf k := fun z => e (inj _ _ z)
      have d1 : dget ((k', x') :: r) k = dget r k := by simp [dget, e]
      have d2 : valV ((kf k', v) :: t') (kf k) = valV t' (kf k) := by simp [valV, e2]
      rw [d1, d2]
      exact ih
theorem RD.any {κ κ' : Type} [DecidableEq κ] [DecidableEq κ'] {kf : κ → κ'} (inj : ∀ a b, kf a = kf b → a = b) : ∀ {l : List (κ × MV)} {t : List (κ' × V)} (k : κ), RD K H rho kf l t →
    (l.any fun p => decide (p.1 = k)) = (t.any fun p => decide (p.1 = kf k))
  | [], t, k, h => by unfold RD at h; subst h; rfl
  | (k', x') :: l, t, k, h => by
    unfold RD at h
    obtain ⟨v', t', rfl, h2, h3⟩ := h
    rw [List.any_cons, List.any_cons, RD.any inj k h3]
    congr 1
    by_cases e : k' = k
    · simp [e]
    · have e2 : ¬ kf k' = kf k := fun z => e (inj _ _ z)
      simp [e, e2]
theorem RD.snoc {κ κ' : Type} {kf : κ → κ'} : ∀ {l : List (κ × MV)} {t : List (κ' × V)} (k : κ) {x : MV} {v : V}, RD K H rho kf l t → RV K H rho x v → RD K H rho kf (l ++ [(k, x)]) (t ++ [(kf k, v)])
  | [], t, k, x, v, h, r => by
    unfold RD at h
    subst h
    show RD K H rho kf [(k, x)] _
    unfold RD
    exact ⟨v, [], rfl, r, by unfold RD; rfl⟩
  | (k', x') :: l, t, k, x, v, h, r => by
    unfold RD at h
    obtain ⟨v', t', rfl, h2, h3⟩ := h
    show RD K H rho kf ((k', x') :: (l ++ [(k, x)])) _
    unfold RD
    exact ⟨v', _, rfl, h2, RD.snoc k h3 r⟩
theorem RD.mapv {κ κ' : Type} [DecidableEq κ] [DecidableEq κ'] {kf : κ → κ'} (inj : ∀ a b, kf a = kf b → a = b) : ∀ {l : List (κ × MV)} {t : List (κ' × V)} (k : κ) {x : MV} {v : V}, RD K H rho kf l t → RV K H rho x v →
    RD K H rho kf (l.map fun p => if p.1 = k then (p.1, x) else p) (t.map fun p => if p.1 = kf k then (p.1, v) else p)
  | [], t, k, x, v, h, r => by unfold RD at h; subst h; simp [RD]
  | (k', x') :: l, t, k, x, v, h, r => by
    unfold RD at h
    obtain ⟨v', t', rfl, h2, h3⟩ := h
    have ih := RD.mapv inj k h3 r
    by_cases e : k' = k
    · subst e
      rw [List.map_cons, List.map_cons, if_pos rfl, if_pos rfl]
      unfold RD
      exact ⟨v, _, rfl, r, ih⟩
    · rw [List.map_cons, List.map_cons, if_neg e, if_neg fun z => e (inj _ _ z)]
      unfold RD
      exact ⟨v', _, rfl, h2, ih⟩
theorem RD.put {κ κ' : Type} [DecidableEq κ] [DecidableEq κ'] {kf : κ → κ'} (inj : ∀ a b, kf a = kf b → a = b) {l : List (κ × MV)} {t : List (κ' × V)} (k : κ) {x : MV} {v : V} (h : RD K H rho kf l t) (r : RV K H rho x v) :
    RD K H rho kf (dput l k x) (putK t (kf k) v) := by
  unfold dput putK
  rw [RD.any inj k h]
  by_cases z : (t.any fun p => decide (p.1 = kf k)) = true
  · rw [if_pos z, if_pos z]
    exact RD.mapv inj k h r
  · rw [if_neg z, if_neg z]
    exact RD.snoc k h r
theorem RD.drop {κ κ' : Type} [DecidableEq κ] [DecidableEq κ'] {kf : κ → κ'} (inj : ∀ a b, kf a = kf b → a = b) : ∀ {l : List (κ × MV)} {t : List (κ' × V)} (k : κ), RD K H rho kf l t → RD K H rho kf (ddrop l k) (dropK t (kf k))
  | [], t, k, h => by
    unfold RD at h
    subst h
    show RD K H rho kf [] _
    unfold RD
    rfl
  | (k', x') :: l, t, k, h => by
    unfold RD at h
    obtain ⟨v', t', rfl, h2, h3⟩ := h
    have ih := RD.drop inj k h3
    by_cases e : k' = k
    · subst e
      have d1 : ddrop ((k', x') :: l) k' = ddrop l k' := by simp [ddrop]
      have d2 : dropK ((kf k', v') :: t') (kf k') = dropK t' (kf k') := by simp [dropK]
      rw [d1, d2]
      exact ih
    · have e2 : ¬ kf k' = kf k := fun z => e (inj _ _ z)
      have d1 : ddrop ((k', x') :: l) k = (k', x') :: ddrop l k := by simp [ddrop, e]
      have d2 : dropK ((kf k', v') :: t') (kf k) = (kf k', v') :: dropK t' (kf k) := by simp [dropK, e2]
      rw [d1, d2]
      unfold RD
      exact ⟨v', _, rfl, h2, ih⟩
end
/-- a call of the small semantics by values -/
def rM (K : PySem.W.Frag) (nm : Nm) (F : MH → List MV → Res MV) : List V → Hp → VK → Prop := fun xs H Q => ∃ rho h ms W σ, Rel K nm rho h H ∧ RVs K H rho ms xs ∧ RT K nm (relV' K) W σ Q rho H (F h ms)
section
variable {X : Cx} {nm : Nm}
theorem one {K : PySem.W.Frag} {rho : List Addr} {H : Hp} {x : MV} {xs : List V} (h : RVs K H rho [x] xs) : ∃ v, xs = [v] ∧ RV K H rho x v := by
  obtain ⟨v, r, rfl, h1, h2⟩ := h.cons'
  rw [h2.nil']
  exact ⟨v, rfl, h1⟩
theorem two {K : PySem.W.Frag} {rho : List Addr} {H : Hp} {x y : MV} {xs : List V} (h : RVs K H rho [x, y] xs) : ∃ v u, xs = [v, u] ∧ RV K H rho x v ∧ RV K H rho y u := by
  obtain ⟨v, r, rfl, h1, h2⟩ := h.cons'
  obtain ⟨u, rfl, h3⟩ := one h2
  exact ⟨v, u, rfl, h1, h3⟩
theorem cb_len : CallR X (.builtin "len") (rM X.K nm (blt "len")) := by
  have base : CallR X (.builtin "len") (fun xs H Q => (∃ x n, xs = [x] ∧ LenV X.K x H n ∧ Q (.int n) H) ∨ (∃ a kvs, xs = [V.ref a] ∧ H a = some (.dK kvs) ∧ Q (.int kvs.length) H)) := CallR.or call_len call_lenD
  intro pins s σ H xs us Q I r ⟨rho, h, ms, W, σ', rl, rv, rt⟩
  refine base pins s σ H xs us Q I r ?_
  unfold blt at rt
  rw [if_pos rfl] at rt
  split at rt
  · rename_i x
    obtain ⟨v, rfl, hv⟩ := one rv
    split at rt
    · rename_i n hn
      unfold lenM at hn
      split at hn
      · split at hn
        · rename_i t hs
          injection hn with hn
          subst hn
          exact .inl ⟨_, _, rfl, by rw [hv.str]; exact ⟨by rw [lim_eq] at hs; simpa [Str.length] using hs, rfl⟩, by have := rt.now rl (b := .int t.length) (by show RV _ _ _ _ _; unfold RV; rfl); simpa [Str.length] using this⟩
        · cases hn
      · injection hn with hn
        subst hn
        obtain ⟨a, vs, rfl, h1, h2⟩ := hv.tup
        exact .inl ⟨_, _, rfl, .inr ⟨vs, SqT.of h1, rfl⟩, rt.now rl (by show RV _ _ _ _ _; unfold RV; rw [h2.length])⟩
      · injection hn with hn
        subst hn
        obtain ⟨a, vs, rfl, h1, h2⟩ := hv.sq
        exact .inl ⟨_, _, rfl, .inl ⟨vs, h1.sq, rfl⟩, rt.now rl (by show RV _ _ _ _ _; unfold RV; rw [h2.length])⟩
      · injection hn with hn
        subst hn
        obtain ⟨a, vs, rfl, h1, h2⟩ := hv.kt
        exact .inl ⟨_, _, rfl, .inr ⟨vs, h1.sq, rfl⟩, rt.now rl (by show RV _ _ _ _ _; unfold RV; rw [h2.length])⟩
      · split at hn
        · rename_i ys hi
          injection hn with hn
          subst hn
          obtain ⟨a, vs, rfl, _, h1, h2⟩ := rl.lst hi hv
          exact .inl ⟨_, _, rfl, .inl ⟨vs, SqL.of h1, rfl⟩, rt.now rl (by show RV _ _ _ _ _; unfold RV; rw [h2.length])⟩
        · rename_i ys hi
          injection hn with hn
          subst hn
          obtain ⟨a, vs, rfl, _, h1, h2⟩ := rl.dk hi hv
          exact .inr ⟨a, vs, rfl, h1, rt.now rl (by show RV _ _ _ _ _; unfold RV; rw [h2.len])⟩
        · cases hn
      · cases hn
    · exact rt.elim
  · exact rt.elim
theorem cb_str : CallR X (.type "str") (rM X.K nm (blt "str")) := by
  have base := CallR.or (X := X) call_str_int SkE.call_str_str
  intro pins s σ H xs us Q I r ⟨rho, h, ms, W, σ', rl, rv, rt⟩
  refine base pins s σ H xs us Q I r ?_
  unfold blt at rt
  rw [if_neg (by decide +kernel), if_pos rfl] at rt
  split at rt
  · split at rt
    · rename_i i hi
      obtain ⟨v, rfl, hv⟩ := one rv
      rw [hv.int]
      exact .inl ⟨i, rfl, hi, rt.now rl (by show RV _ _ _ _ _; unfold RV; simp [tl])⟩
    · exact rt.elim
  · obtain ⟨v, rfl, hv⟩ := one rv
    rw [hv.str]
    exact .inr ⟨_, rfl, rt.now rl (by show RV _ _ _ _ _; unfold RV; rfl)⟩
  · exact rt.elim
theorem cb_int : CallR X (.type "int") (rM X.K nm (blt "int")) := by
  have base := CallR.or (X := X) call_int1 call_int_str
  intro pins s σ H xs us Q I r ⟨rho, h, ms, W, σ', rl, rv, rt⟩
  refine base pins s σ H xs us Q I r ?_
  unfold blt at rt
  rw [if_neg (by decide +kernel), if_neg (by decide +kernel), if_pos rfl] at rt
  split at rt
  · obtain ⟨v, rfl, hv⟩ := one rv
    rw [hv.int]
    exact .inl (.inl ⟨_, rfl, rt.now rl (by show RV _ _ _ _ _; unfold RV; rfl)⟩)
  · obtain ⟨v, rfl, hv⟩ := one rv
    rw [hv.bl]
    exact .inl (.inr ⟨_, rfl, rt.now rl (by show RV _ _ _ _ _; unfold RV; rfl)⟩)
  · split at rt
    · rename_i s0 hs
      split at rt
      · rename_i n hn
        obtain ⟨v, rfl, hv⟩ := one rv
        rw [hv.str]
        exact .inr ⟨_, n, rfl, hn, by simpa [Str.length] using hs, rt.now rl (by show RV _ _ _ _ _; unfold RV; rfl)⟩
      · exact rt.elim
    · exact rt.elim
  · exact rt.elim
theorem cb_ord : CallR X (.builtin "ord") (rM X.K nm (blt "ord")) := by
  intro pins s σ H xs us Q I r ⟨rho, h, ms, W, σ', rl, rv, rt⟩
  refine call_ord pins s σ H xs us Q I r ?_
  unfold blt at rt
  rw [if_neg (by decide +kernel), if_neg (by decide +kernel), if_neg (by decide +kernel), if_pos rfl] at rt
  split at rt
  · obtain ⟨v, rfl, hv⟩ := one rv
    rw [hv.str]
    exact ⟨_, rfl, by simp [Str.length], rt.now rl (by show RV _ _ _ _ _; unfold RV; simp)⟩
  · exact rt.elim
theorem cb_max (hc : X.calm = true) : CallR X (.builtin "max") (rM X.K nm (blt "max")) := by
  intro pins s σ H xs us Q I r ⟨rho, h, ms, W, σ', rl, rv, rt⟩
  refine call_max2 hc pins s σ H xs us Q I r ?_
  unfold blt at rt
  rw [if_neg (by decide +kernel), if_neg (by decide +kernel), if_neg (by decide +kernel), if_neg (by decide +kernel), if_pos rfl] at rt
  split at rt
  · obtain ⟨v, u, rfl, hv, hu⟩ := two rv
    rw [hv.int, hu.int]
    exact ⟨_, _, rfl, rt.now rl (by show RV _ _ _ _ _; unfold RV; rfl)⟩
  · exact rt.elim
theorem cb_min (hc : X.calm = true) : CallR X (.builtin "min") (rM X.K nm (blt "min")) := by
  intro pins s σ H xs us Q I r ⟨rho, h, ms, W, σ', rl, rv, rt⟩
  refine call_min2 hc pins s σ H xs us Q I r ?_
  unfold blt at rt
  rw [if_neg (by decide +kernel), if_neg (by decide +kernel), if_neg (by decide +kernel), if_neg (by decide +kernel), if_neg (by decide +kernel), if_pos rfl] at rt
  split at rt
  · obtain ⟨v, u, rfl, hv, hu⟩ := two rv
    rw [hv.int, hu.int]
    exact ⟨_, _, rfl, rt.now rl (by show RV _ _ _ _ _; unfold RV; rfl)⟩
  · exact rt.elim
theorem cb_list : CallR X (.type "list") (rM X.K nm (blt "list")) := by
  intro pins s σ H xs us Q I r ⟨rho, h, ms, W, σ', rl, rv, rt⟩
  refine call_list_of pins s σ H xs us Q I r ?_
  unfold blt at rt
  rw [if_neg (by decide +kernel), if_neg (by decide +kernel), if_neg (by decide +kernel), if_neg (by decide +kernel), if_neg (by decide +kernel), if_neg (by decide +kernel), if_pos rfl] at rt
  split at rt
  · obtain ⟨v, rfl, hv⟩ := one rv
    split at rt
    · rename_i ys hs
      obtain ⟨a, vs, rfl, h1, h2⟩ := seq_ok rl hs hv
      exact ⟨a, vs, rfl, h1, fun p hp => rt.lst rl h2 hp⟩
    · exact rt.elim
  · exact rt.elim
theorem cb_dict : CallR X (.type "dict") (rM X.K nm (blt "dict")) := by
  intro pins s σ H xs us Q I r ⟨rho, h, ms, W, σ', rl, rv, rt⟩
  refine call_dictD pins s σ H xs us Q I r ?_
  unfold blt at rt
  rw [if_neg (by decide +kernel), if_neg (by decide +kernel), if_neg (by decide +kernel), if_neg (by decide +kernel), if_neg (by decide +kernel), if_neg (by decide +kernel), if_neg (by decide +kernel), if_pos rfl] at rt
  split at rt
  · obtain ⟨v, rfl, hv⟩ := one rv
    split at rt
    · rename_i ys hi
      obtain ⟨a, l, rfl, _, h1, h2⟩ := rl.dk hi hv
      exact ⟨a, l, rfl, Rd.of h1, fun p hp => rt.dk rl h2 hp⟩
    · exact rt.elim
  · exact rt.elim
variable {H : Hp} {rho : List Addr}
theorem each_of {R : Value → MV × PyData → Prop} (hR : ∀ (x : MV) (d : PyData) (v : V) (u : Value), RelV v u → RV X.K H rho x v → R u (x, d)) : ∀ {xs : List MV} {vs : List V} {us : List Value} {ds : List PyData}, RVs X.K H rho xs vs → Vals vs us → ds.length = xs.length → PySem.W.EachIs R us (xs.zip ds)
  | [], vs, us, ds, h, r, hl => by
    rw [h.nil'] at r
    cases r
    exact .nil
  | x :: xs, vs, us, ds, h, r, hl => by
    obtain ⟨v, t, rfl, h1, h2⟩ := h.cons'
    cases r with
    | cons r1 r2 =>
      cases ds with
      | nil => simp at hl
      | cons d ds => exact .cons (hR x d v _ r1 h1) (each_of hR h2 r2 (by simpa using hl))
theorem each_back : ∀ {bs : List (MV × PyData)} {us : List Value}, PySem.W.EachIs (fun u b => ∃ v, RelV v u ∧ RV X.K H rho b.1 v) us bs → ∃ vs, Vals vs us ∧ RVs X.K H rho (bs.map (·.1)) vs
  | _, _, .nil => ⟨[], .nil, by unfold RVs; rfl⟩
  | _, _, .cons h t => by
    obtain ⟨v, h1, h2⟩ := h
    obtain ⟨vs, h3, h4⟩ := each_back t
    exact ⟨v :: vs, .cons h1 h3, RVs.mk h2 h4⟩
theorem each_reads {pins : List (Addr × Obj)} {σ : L2.St} {s : Shared} {h : MH} (I : L2.Inv X pins σ H s) (rl : Rel X.K nm rho h H) : ∀ {xs : List MV} {vs : List V} {us : List Value} {ds : List PyData}, RVs X.K H rho xs vs → Vals vs us → mapO (toD h 30) xs = some ds →
    PySem.W.EachIs (fun u (b : MV × PyData) => ∃ as, Reads s.heap u b.2 as) us (xs.zip ds)
  | [], vs, us, ds, h, r, hl => by
    rw [h.nil'] at r
    cases r
    exact .nil
  | x :: xs, vs, us, ds, h, r, hl => by
    obtain ⟨v, t, rfl, h1, h2⟩ := h.cons'
    cases r with
    | cons r1 r2 =>
      unfold mapO at hl
      split at hl
      · rename_i d hd
        cases ht : mapO (toD _ 30) xs with
        | none => rw [ht] at hl; cases hl
        | some t2 =>
          rw [ht] at hl
          cases hl
          exact .cons (Dp.reads I d v _ (toD_ok rl 30 x v d hd h1).dp r1) (each_reads I rl h2 r2 ht)
      · cases hl
theorem mapO_len7 {α β : Type} {f : α → Option β} : ∀ {xs : List α} {l : List β}, mapO f xs = some l → l.length = xs.length
  | [], l, h => by cases h; rfl
  | x :: r, l, h => by
    unfold mapO at h
    split at h
    · cases ht : mapO f r with
      | none => rw [ht] at h; cases h
      | some t =>
        rw [ht] at h
        cases h
        simp [mapO_len7 ht]
    · cases h
theorem mapO_all7 {h : MH} (rl : Rel X.K nm rho h H) : ∀ {xs : List MV} {vs : List V} {ds : List PyData}, RVs X.K H rho xs vs → mapO (toD h 30) xs = some ds → ∀ d ∈ ds, d.depth ≤ 30
  | [], vs, ds, r, e, d, hd => by cases e; cases hd
  | x :: xs, vs, ds, r, e, d, hd => by
    obtain ⟨v, t, rfl, h1, h2⟩ := r.cons'
    unfold mapO at e
    split at e
    · rename_i d1 hd1
      cases ht : mapO (toD h 30) xs with
      | none => rw [ht] at e; cases e
      | some t2 =>
        rw [ht] at e
        cases e
        rcases List.mem_cons.mp hd with h3 | h3
        · rw [h3]; exact (toD_ok rl 30 x v d1 hd1 h1).dep
        · exact mapO_all7 rl h2 ht d h3
    · cases e
/-- sorted(xs), xs a list of tuples -/
theorem cr_sortD (hu : X.A.units + 65 < cLine) {pins : List (Addr × Obj)} {σ σ' : L2.St} {s : Shared} {h : MH} {W : WX} {Q : VK} {us : List Value} {v : V} {i : Nat} {xs ys : List MV} (I : L2.Inv X pins σ H s) (r : Vals [v] us) (rl : Rel X.K nm rho h H) (hi : h[i]? = some (.lst xs)) (hv : RV X.K H rho (.ref i) v) (hs : sortD h xs = some ys)
    (rt : RT X.K nm (relV' X.K) W σ' Q rho H (lay (.lst ys) h)) : wpAny (model X.prog X.w) X.A (call (.builtin "sorted") us) (EP X pins σ Q) X.xe s := by
  obtain ⟨a, vs, rfl, _, h1, h2⟩ := rl.lst hi hv
  rw [Vals.ref1 r]
  obtain ⟨its, rv, pl, hz⟩ := I.list (SqL.of h1)
  unfold sortD at hs
  split at hs
  case h_2 => cases hs
  rename_i ds hd
  split at hs
  case isFalse => cases hs
  rename_i hc
  cases hs
  obtain ⟨c1, c2, c3⟩ := hc
  have hlen := mapO_len7 hd
  have emap : (xs.zip ds).map (·.2) = ds := List.map_snd_zip (by rw [hlen]; exact Nat.le_refl _)
  refine PySem.W.sorted_data (vs := its) (bs := xs.zip ds) (enc := fun b => b.2) (R := fun u b => ∃ v, RelV v u ∧ RV X.K H rho b.1 v) (by exact pl.isList) (each_of (fun x d v u hr hx => ⟨v, hr, hx⟩) h2 rv hlen) (each_reads I rl h2 rv hd) ?_ ?_ ?_ ?_ fun out ho he => ?_
  · show PySem.W.AllAlike ((xs.zip ds).map (·.2))
    rw [emap]
    intro d hd' e he'
    have := List.all_eq_true.mp c2 d hd'
    exact List.all_eq_true.mp this e he'
  · show PySem.W.Sortable ((xs.zip ds).map (·.2))
    rw [emap]
    refine .inl fun d hd' => ?_
    have := List.all_eq_true.mp c1 d hd'
    unfold isT1 at this
    split at this
    · exact ⟨_, _, rfl⟩
    · cases this
  · rw [List.length_zip, hlen, ← lim_eq]
    simpa using c3
  · intro b hb
    have : b.2 ∈ ds := by rw [← emap]; exact List.mem_map_of_mem hb
    have := mapO_all7 rl h2 hd _ this
    show X.A.units + 2 + b.2.depth < cLine
    omega
  · have e2 : (xs.zip ds).mergeSort (PySem.W.dataLe false fun b => b.2) = (xs.zip ds).mergeSort fun p q => !PySem.W.dataLt q.2 p.2 := by
      rw [PySem.W.dataLe_eq]; rfl
    rw [e2] at he
    obtain ⟨zs, b1, b2⟩ := each_back he
    obtain ⟨e, hat⟩ := PyProof.Rows.sortedAll_at s.heap its out.toArray
    have hn : H (s.heap.objs.size + 1) = none := I.hok.fresh (Nat.le_succ _)
    have hlz : zs.length ≤ sizeLine := by
      rw [← b2.length, List.length_map, List.length_mergeSort, List.length_zip, hlen, ← lim_eq]
      simpa using c3
    have J : L2.Inv X pins σ (upd H (s.heap.objs.size + 1) (.lst zs)) { s with heap := PyProof.Rows.sortedAll s.heap its out.toArray } :=
      I.laid (t' := s.toks) (h' := PyProof.Rows.sortedAll s.heap its out.toArray) (fun b u e => PyProof.Rows.sortedAll_old e) (Nat.le_succ _) ⟨hlz, out, e, b1, hat⟩
    exact ⟨.ref (s.heap.objs.size + 1), _, J, rfl, RT.lst rt rl b2 hn⟩
theorem cb_sorted (hc : X.calm = true) (hu : X.A.units + 65 < cLine) : CallR X (.builtin "sorted") (rM X.K nm (blt "sorted")) := by
  have base := CallR.or (X := X) (CallR.or (call_sortedD hc) cr_sortedI) cr_sortedS
  intro pins s σ H xs us Q I r ⟨rho, h, ms, W, σ', rl, rv, rt⟩
  unfold blt at rt
  rw [if_neg (by decide +kernel), if_neg (by decide +kernel), if_neg (by decide +kernel), if_neg (by decide +kernel), if_neg (by decide +kernel), if_neg (by decide +kernel), if_neg (by decide +kernel), if_neg (by decide +kernel), if_pos rfl] at rt
  split at rt
  · obtain ⟨v, rfl, hv⟩ := one rv
    split at rt
    · rename_i ys hi
      obtain ⟨a, l, rfl, _, h1, h2⟩ := rl.dk hi hv
      split at rt
      · rename_i ks hk
        split at rt
        · rename_i hz
          refine base pins s σ H _ us Q I r (.inl (.inl ⟨a, l, _, rfl, Rd.of h1, h2.keysS hk, by simpa using hz, fun zs p hp hs hn => ?_⟩))
          rw [sortS_of hp hs]
          have := rt.lst rl (RVs.of_texts _) hn
          rw [List.map_map]
          exact this
        · exact rt.elim
      · exact rt.elim
    · rename_i ys hi
      obtain ⟨a, vs, rfl, _, h1, h2⟩ := rl.lst hi hv
      split at rt
      · rename_i ns hk
        rw [intsM_eq hk] at h2
        rw [h2.ints] at h1
        refine base pins s σ H _ us Q I r (.inl (.inr ⟨a, ns, rfl, SqL.of h1, fun zs p hp hs hn => ?_⟩))
        rw [sortI_of hp hs]
        exact rt.lst rl (RVs.of_ints _) hn
      · split at rt
        · rename_i ss hk
          split at rt
          · rename_i hz
            rw [strsM_eq hk] at h2
            rw [h2.texts] at h1
            refine base pins s σ H _ us Q I r (.inr ⟨a, ss.map fun s => (⟨s.toArray⟩ : Str), rfl, SqL.of (by rw [h1, List.map_map]; rfl), by simpa using hz, fun zs p hp hs hn => ?_⟩)
            rw [sortS_of hp hs]
            have := rt.lst rl (RVs.of_texts _) hn
            rw [List.map_map]
            exact this
          · exact rt.elim
        · split at rt
          · rename_i zs hz
            exact cr_sortD hu I r rl hi hv hz rt
          · exact rt.elim
    · exact rt.elim
  · exact rt.elim
end
end Mn
end

section
set_option autoImplicit false
set_option linter.all false
set_option maxRecDepth 100000
set_option maxHeartbeats 1000000
/-! the small semantics is sound: methods of texts and lists -/
namespace Mn
open PySem PySem.Spec L2
/-- a text's method -/
def rMs (K : PySem.W.Frag) (nm : Nm) (m : Str) : V → List V → Hp → VK → Prop := fun x xs H Q => ∃ rho h t ms W σ, Rel K nm rho h H ∧ RV K H rho (.str t) x ∧ RVs K H rho ms xs ∧ RT K nm (relV' K) W σ Q rho H (mth m h (.str t) ms)
/-- a list's method -/
def rMl (K : PySem.W.Frag) (nm : Nm) (m : Str) : V → List V → Hp → VK → Prop := fun x xs H Q => ∃ rho h a ys ms W σ, Rel K nm rho h H ∧ RV K H rho (.ref a) x ∧ h[a]? = some (.lst ys) ∧ RVs K H rho ms xs ∧ RT K nm (relV' K) W σ Q rho H (mth m h (.ref a) ms)
section
variable {X : Cx} {nm : Nm}
theorem len0 {t : List Nat} (h : t ≠ []) : ((⟨t.toArray⟩ : Str).length == 0) = false := by
  cases t with
  | nil => exact absurd rfl h
  | cons a r => simp [Str.length]
theorem mm_split : MtR X "str.split" (rMs X.K nm "split") := by
  have base := MtR.or (X := X) mt_split mt_splitMax
  intro pins s σ H x xs v us Q I rx r ⟨rho, h, t, ms, W, σ', rl, vx, rv, rt⟩
  refine base pins s σ H x xs v us Q I rx r ?_
  unfold mth at rt
  dsimp only at rt
  rw [if_pos rfl] at rt
  split at rt
  · split at rt
    · rename_i t' hz
      obtain ⟨w, rfl, hw⟩ := one rv
      rw [hw.str]
      refine .inl ⟨_, _, vx.str, rfl, len0 hz.1, by have := hz.2; rw [lim_eq] at this; simpa [Str.length] using this, fun p hp => ?_⟩
      exact rt.lst rl (of_strs _) hp
    · exact rt.elim
  · split at rt
    · rename_i t' k hz
      obtain ⟨w, w2, rfl, hw, hw2⟩ := two rv
      rw [hw.str, hw2.int]
      refine .inr ⟨_, _, k, vx.str, rfl, len0 hz.1, hz.2.2.1, hz.2.2.2, by have := hz.2.1; rw [lim_eq] at this; simpa [Str.length] using this, fun p hp => ?_⟩
      exact rt.lst rl (of_strs _) hp
    · exact rt.elim
  · exact rt.elim
theorem mm_join : MtR X "str.join" (rMs X.K nm "join") := by
  intro pins s σ H x xs v us Q I rx r ⟨rho, h, t, ms, W, σ', rl, vx, rv, rt⟩
  refine mt_join pins s σ H x xs v us Q I rx r ?_
  unfold mth at rt
  dsimp only at rt
  rw [if_neg (by decide +kernel), if_pos rfl] at rt
  split at rt
  · rename_i y
    obtain ⟨w, rfl, hw⟩ := one rv
    split at rt
    · rename_i ys hy
      split at rt
      · rename_i hz
        cases q : seqOf h y with
        | none => rw [q] at hy; cases hy
        | some zs =>
          rw [q] at hy
          obtain ⟨a, vs, rfl, h1, h2⟩ := seq_ok rl q hw
          rw [strsM_eq (show strsM zs = some ys from hy)] at h2
          have e : vs = (ys.map fun s => (⟨s.toArray⟩ : Str)).map V.str := by rw [h2.texts, List.map_map]; rfl
          refine ⟨_, a, ys.map fun s => (⟨s.toArray⟩ : Str), vx.str, rfl, by rw [← e]; exact h1, ?_, ?_⟩
          · have l1 : (ys.map fun s => (⟨s.toArray⟩ : Str)).map (·.length) = ys.map List.length := by
              rw [List.map_map]
              exact List.map_congr_left fun z _ => by simp [Str.length]
            rw [l1, List.length_map]
            have hz' := hz
            rw [show lim = 16777216 from rfl] at hz'
            simpa [Str.length] using hz'
          · refine rt.now rl ?_
            show RV _ _ _ _ _
            unfold RV
            have := SX.join_S t ys
            rw [this, joinM_eq]
      · exact rt.elim
    · exact rt.elim
  · exact rt.elim
theorem mm_startswith : MtR X "str.startswith" (rMs X.K nm "startswith") := by
  intro pins s σ H x xs v us Q I rx r ⟨rho, h, t, ms, W, σ', rl, vx, rv, rt⟩
  refine mt_startswith pins s σ H x xs v us Q I rx r ?_
  unfold mth at rt
  dsimp only at rt
  rw [if_neg (by decide +kernel), if_neg (by decide +kernel), if_pos rfl] at rt
  split at rt
  · obtain ⟨w, rfl, hw⟩ := one rv
    rw [hw.str]
    exact ⟨_, _, vx.str, rfl, rt.now rl (by show RV _ _ _ _ _; unfold RV; rfl)⟩
  · exact rt.elim
theorem mm_find : MtR X "str.find" (rMs X.K nm "find") := by
  intro pins s σ H x xs v us Q I rx r ⟨rho, h, t, ms, W, σ', rl, vx, rv, rt⟩
  refine mt_find3 pins s σ H x xs v us Q I rx r ?_
  unfold mth at rt
  dsimp only at rt
  rw [if_neg (by decide +kernel), if_neg (by decide +kernel), if_neg (by decide +kernel), if_pos rfl] at rt
  split at rt
  · obtain ⟨w, w2, rfl, hw, hw2⟩ := two rv
    rw [hw.str, hw2.int]
    exact ⟨_, _, _, vx.str, rfl, rt.now rl (by show RV _ _ _ _ _; unfold RV; rfl)⟩
  · exact rt.elim
/-- a list changed -/
theorem RT.setl {K : PySem.W.Frag} {rho : List Addr} {H : Hp} {W : WX} {σ : L2.St} {Q : VK} {h : MH} {i : Nat} {a : Addr} {ys zs : List MV} {vs us : List V} {y : MV} {v : V} (rt : RT K nm (relV' K) W σ Q rho H (.ok y (h.set i (.lst zs)))) (rl : Rel K nm rho h H)
    (hi : rho[i]? = some a) (ha : H a = some (.lst vs)) (r : RVs K H rho zs us) (ry : RV K H rho y v) : Q v (upd H a (.lst us)) := by
  have hm : Mut (H a) := by rw [ha]; trivial
  exact rt rho _ _ (Ex.write hm) (rl.put hi hm ⟨us, upd_same, r.mono (Ex.write hm)⟩) (ry.mono (Ex.write hm))
theorem mm_append : MtR X "list.append" (rMl X.K nm "append") := by
  intro pins s σ H x xs v us Q I rx r ⟨rho, h, a, ys, ms, W, σ', rl, vx, hi, rv, rt⟩
  refine mt_append pins s σ H x xs v us Q I rx r ?_
  unfold mth at rt
  dsimp only at rt
  rw [hi] at rt
  dsimp only at rt
  rw [if_pos rfl] at rt
  split at rt
  · obtain ⟨w, rfl, hw⟩ := one rv
    obtain ⟨b, vs, rfl, h0, h1, h2⟩ := rl.lst hi vx
    split at rt
    · rename_i hz
      exact ⟨b, vs, w, rfl, rfl, h1, by rw [← h2.length]; rw [lim_eq] at hz; exact hz, rt.setl (ys := ys) rl h0 h1 (h2.append (RVs.one hw)) (by unfold RV; rfl)⟩
    · exact rt.elim
  · exact rt.elim
theorem mm_pop : MtR X "list.pop" (rMl X.K nm "pop") := by
  have base := MtR.or (X := X) mt_pop mt_popAt
  intro pins s σ H x xs v us Q I rx r ⟨rho, h, a, ys, ms, W, σ', rl, vx, hi, rv, rt⟩
  refine base pins s σ H x xs v us Q I rx r ?_
  unfold mth at rt
  dsimp only at rt
  rw [hi] at rt
  dsimp only at rt
  rw [if_neg (by decide +kernel), if_pos rfl] at rt
  obtain ⟨b, vs, rfl, h0, h1, h2⟩ := rl.lst hi vx
  split at rt
  · rw [rv.nil']
    split at rt
    · rename_i y hy
      obtain ⟨w, hw, hr⟩ := h2.get hy
      exact .inl ⟨b, vs, w, rfl, rfl, h1, by rw [← h2.length]; exact hw, rt.setl (ys := ys) rl h0 h1 h2.dropLast hr⟩
    · exact rt.elim
  · obtain ⟨w, rfl, hw⟩ := one rv
    rw [hw.int]
    split at rt
    · rename_i i hz
      split at rt
      · rename_i k hk
        split at rt
        · rename_i y hy
          obtain ⟨u, hu, hr⟩ := h2.get hy
          exact .inr ⟨b, vs, i, k, u, rfl, rfl, h1, hz.1, hz.2, by rw [← h2.length]; exact hk, hu, rt.setl (ys := ys) rl h0 h1 (h2.eraseIdx k) hr⟩
        · exact rt.elim
      · exact rt.elim
    · exact rt.elim
  · exact rt.elim
theorem mm_extend : MtR X "list.extend" (rMl X.K nm "extend") := by
  intro pins s σ H x xs v us Q I rx r ⟨rho, h, a, ys, ms, W, σ', rl, vx, hi, rv, rt⟩
  refine mt_extend pins s σ H x xs v us Q I rx r ?_
  unfold mth at rt
  dsimp only at rt
  rw [hi] at rt
  dsimp only at rt
  rw [if_neg (by decide +kernel), if_neg (by decide +kernel), if_pos rfl] at rt
  obtain ⟨b, vs, rfl, h0, h1, h2⟩ := rl.lst hi vx
  split at rt
  · obtain ⟨w, rfl, hw⟩ := one rv
    split at rt
    · rename_i zs hj
      obtain ⟨c, ws, rfl, _, h3, h4⟩ := rl.lst hj hw
      split at rt
      · rename_i hz
        exact ⟨b, c, vs, ws, rfl, rfl, h1, h3, by rw [← h2.length, ← h4.length]; rw [lim_eq] at hz; exact hz, rt.setl (ys := ys) rl h0 h1 (h2.append h4) (by unfold RV; rfl)⟩
      · exact rt.elim
    · exact rt.elim
  · exact rt.elim
end
end Mn
end

section
set_option autoImplicit false
set_option linter.all false
set_option maxRecDepth 100000
set_option maxHeartbeats 1000000
/-! expressions without calls -/
namespace Mn
open PySem PySem.Spec L2
theorem RS.ex {K : PySem.W.Frag} {H H' : Hp} {rho rho' : List Addr} {sm : MSt} {σ : L2.St} (r : RS K H rho sm σ) (e : Ex K rho H rho' H') : RS K H' rho' sm σ := r.mono e
section
variable {g : GS} {C : CallS} {lv : Nat} {sc : SC} {W : WX} {X : Cx} {L : Lv}
theorem EC.hu (E : EC g C lv sc W X) : X.A.units + 65 < cLine := by have := E.room.un; omega
theorem EC.hu1 (E : EC g C lv sc W X) : X.A.units + 1 < cLine := by have := E.room.un; omega
theorem plain_star {es : List Expr} {e : Expr} (h : plainA (e :: es) = true) (env : Env) : starEach (e :: es) env = (false, eval e env) :: starEach es env := by
  unfold plainA at h
  simp only [List.all_cons, Bool.and_eq_true] at h
  cases e with
  | Starred => simp at h
  | _ => rfl
theorem plain_tail {es : List Expr} {e : Expr} (h : plainA (e :: es) = true) : plainA es = true := by
  unfold plainA at h ⊢
  simp only [List.all_cons, Bool.and_eq_true, List.length_cons, decide_eq_true_eq] at h ⊢
  exact ⟨by omega, h.2.2⟩
theorem plain_any : ∀ {es : List Expr} (h : plainA es = true) (pos : Pos) (env : Env), (backTo pos (starEach es env)).any (·.1) = false
  | [], _, _, _ => rfl
  | e :: es, h, pos, env => by
    rw [plain_star h env]
    show (false || (backTo pos (starEach es env)).any (·.1)) = false
    rw [plain_any (plain_tail h) pos env]
    rfl
theorem plain_all : ∀ {es : List Expr} (h : plainA es = true) (pos : Pos) (env : Env), (backTo pos (starEach es env)).all (fun x => !x.1) = true
  | [], _, _, _ => rfl
  | e :: es, h, pos, env => by
    rw [plain_star h env]
    show (!false && (backTo pos (starEach es env)).all (fun x => !x.1)) = true
    rw [plain_all (plain_tail h) pos env]
    rfl
theorem sa_args (hL : LvOk g C lv L) (E : EC g C lv sc W X) : ∀ {es : List Expr}, plainA es = true → PA X es (tA X.K g.nm W (evA (L.e sc) es))
  | [], _ => paI pa_nil fun σ H Q ⟨rho, sm, h, rs, rl, rt⟩ => rt rho H [] Ex.refl rl (by show RVs _ _ _ _ _; unfold RVs; rfl)
  | e :: es, hp => paI (pa_cons (hL.e X sc W e E) (sa_args hL E (plain_tail hp)) (plain_star hp _)) fun σ H Q ⟨rho, sm, h, rs, rl, rt⟩ => by
    refine ⟨rho, sm, h, rs, rl, RT.imp (RT.bind rt) fun x H1 ⟨r1, h1, a, e1, rl1, ra, rt1⟩ => ?_⟩
    refine ⟨r1, sm, h1, rs.ex e1, rl1, RT.imp (RT.bind rt1) fun xs H2 ⟨r2, h2, as, e2, rl2, ras, rt2⟩ => ?_⟩
    exact rt2 r2 H2 (x :: xs) Ex.refl rl2 (RVs.mk (RV.mono e2 _ _ ra) ras)
theorem se_bin {a b : Expr} {op : Operator} {pos : Pos} (hL : LvOk g C lv L) (E : EC g C lv sc W X) : PE X (.BinOp a op b pos) (tE X.K g.nm W (stepE g C L sc (.BinOp a op b pos))) :=
  peI (pe_op or_bin (hL.e X sc W a E) (hL.e X sc W b E)) fun σ H Q ⟨rho, sm, h, rs, rl, rt⟩ => by
    refine ⟨rho, sm, h, rs, rl, RT.imp (RT.bind rt) fun x H1 ⟨r1, h1, a, e1, rl1, ra, rt1⟩ => ?_⟩
    refine ⟨r1, sm, h1, rs.ex e1, rl1, RT.imp (RT.bind rt1) fun y H2 ⟨r2, h2, b, e2, rl2, rb, rt2⟩ => ?_⟩
    exact ⟨r2, h2, a, b, W, σ, rl2, RV.mono e2 _ _ ra, rb, rt2⟩
theorem rt_opt {α β : Type} {K : PySem.W.Frag} {nm : Nm} {R : Hp → List Addr → α → β → Prop} {W : WX} {σ : L2.St} {Q : β → Hp → Prop} {rho : List Addr} {H : Hp} {o : Option α} {h : MH} (rt : RT K nm R W σ Q rho H (opt o h)) : ∃ a, o = some a ∧ RT K nm R W σ Q rho H (.ok a h) := by
  cases o with
  | none => exact rt.elim
  | some a => exact ⟨a, rfl, rt⟩
theorem se_un {a : Expr} {op : UnaryOp} {pos : Pos} (hL : LvOk g C lv L) (E : EC g C lv sc W X) : PE X (.UnaryOp op a pos) (tE X.K g.nm W (stepE g C L sc (.UnaryOp op a pos))) := by
  cases op with
  | Not =>
    refine peI (pe_notT (hL.e X sc W a E)) fun σ H Q ⟨rho, sm, h, rs, rl, rt⟩ => ?_
    refine ⟨rho, sm, h, rs, rl, RT.imp (RT.bind rt) fun x H1 ⟨r1, h1, a, e1, rl1, ra, rt1⟩ => ?_⟩
    split at rt1
    · rename_i b hb
      exact ⟨b, truth_ok rl1 hb ra, rt1 r1 H1 _ Ex.refl rl1 (by show RV _ _ _ _ _; unfold RV; rfl)⟩
    · exact rt1.elim
  | USub =>
    refine peI (pe_un un_neg (hL.e X sc W a E)) fun σ H Q ⟨rho, sm, h, rs, rl, rt⟩ => ?_
    refine ⟨rho, sm, h, rs, rl, RT.imp (RT.bind rt) fun x H1 ⟨r1, h1, a, e1, rl1, ra, rt1⟩ => ?_⟩
    split at rt1
    · rename_i i
      exact ⟨i, ra.int, rt1 r1 H1 _ Ex.refl rl1 (by show RV _ _ _ _ _; unfold RV; rfl)⟩
    · exact rt1.elim
  | _ => exact peO fun σ H Q ⟨rho, sm, h, rs, rl, rt⟩ => rt.elim
theorem se_boolop {op : BoolOp} {pos : Pos} (hL : LvOk g C lv L) (E : EC g C lv sc W X) : ∀ (vs : List Expr), PE X (.BoolOp op vs pos) (tE X.K g.nm W (evO (L.e sc) op vs))
  | [] => peO fun σ H Q ⟨rho, sm, h, rs, rl, rt⟩ => rt.elim
  | [a] => pe_one (hL.e X sc W a E)
  | a :: b :: r => by
    have ih := se_boolop (op := op) (pos := pos) hL E (b :: r)
    cases op with
    | And =>
      refine peI (pe_andT (hL.e X sc W a E) ih) fun σ H Q ⟨rho, sm, h, rs, rl, rt⟩ => ?_
      refine ⟨rho, sm, h, rs, rl, RT.imp (RT.bind rt) fun x H1 ⟨r1, h1, a, e1, rl1, ra, rt1⟩ => ?_⟩
      split at rt1
      · exact rt1.elim
      · rename_i k hk
        refine ⟨k, truth_ok rl1 hk ra, ?_⟩
        cases k with
        | true => exact ⟨r1, sm, h1, rs.ex e1, rl1, rt1⟩
        | false => exact rt1 r1 H1 _ Ex.refl rl1 ra
    | Or =>
      refine peI (pe_orT (hL.e X sc W a E) ih) fun σ H Q ⟨rho, sm, h, rs, rl, rt⟩ => ?_
      refine ⟨rho, sm, h, rs, rl, RT.imp (RT.bind rt) fun x H1 ⟨r1, h1, a, e1, rl1, ra, rt1⟩ => ?_⟩
      split at rt1
      · exact rt1.elim
      · rename_i k hk
        refine ⟨k, truth_ok rl1 hk ra, ?_⟩
        cases k with
        | false => exact ⟨r1, sm, h1, rs.ex e1, rl1, rt1⟩
        | true => exact rt1 r1 H1 _ Ex.refl rl1 ra
theorem st_boolop {op : BoolOp} {pos : Pos} (hL : LvOk g C lv L) (E : EC g C lv sc W X) : ∀ (vs : List Expr), vs ≠ [] → PW X (.BoolOp op vs pos) (tT X.K g.nm W (evOT (L.t sc) op vs))
  | [], h => (h rfl).elim
  | [a], _ => by
    cases op with
    | And => exact pw_and1 (hL.t X sc W a E)
    | Or => exact pw_or1 (hL.t X sc W a E)
  | a :: b :: r, _ => by
    have ih := st_boolop (op := op) (pos := pos) hL E (b :: r) (by simp)
    cases op with
    | And =>
      refine ⟨fun wh pins s σ H Q I ⟨rho, sm, h, rs, rl, rt⟩ => (pw_and (hL.t X sc W a E) ih).run wh pins s σ H Q I ?_⟩
      refine ⟨rho, sm, h, rs, rl, RT.imp (RT.bind rt) fun k H1 ⟨r1, h1, a, e1, rl1, ra, rt1⟩ => ?_⟩
      cases (show a = k from ra)
      cases k with
      | true => exact ⟨r1, sm, h1, rs.ex e1, rl1, rt1⟩
      | false => exact rt1 r1 H1 _ Ex.refl rl1 rfl
    | Or =>
      refine ⟨fun wh pins s σ H Q I ⟨rho, sm, h, rs, rl, rt⟩ => (pw_or (hL.t X sc W a E) ih).run wh pins s σ H Q I ?_⟩
      refine ⟨rho, sm, h, rs, rl, RT.imp (RT.bind rt) fun k H1 ⟨r1, h1, a, e1, rl1, ra, rt1⟩ => ?_⟩
      cases (show a = k from ra)
      cases k with
      | false => exact ⟨r1, sm, h1, rs.ex e1, rl1, rt1⟩
      | true => exact rt1 r1 H1 _ Ex.refl rl1 rfl
end
end Mn
end

section
set_option autoImplicit false
set_option linter.all false
set_option maxRecDepth 100000
set_option maxHeartbeats 1000000
/-! comparisons, subscripts, attributes, displays, tests -/
namespace Mn
open PySem PySem.Spec L2
section
variable {X : Cx} {nm : Nm}
theorem dictAsk_ok {K : PySem.W.Frag} {rho : List Addr} {h : MH} {H : Hp} {mx my : MV} {x y : V} {o : Option MV} (rl : Rel K nm rho h H) (e : dictAsk h mx my = some o) (vx : RV K H rho mx x) (vy : RV K H rho my y) :
    ∃ a ov, x = .ref a ∧ DGet H a y ov ∧ o.isSome = ov.isSome ∧ ∀ z, o = some z → ∃ v, ov = some v ∧ RV K H rho z v := by
  unfold dictAsk at e
  split at e
  · split at e
    · rename_i kvs hi
      split at e
      · rename_i q hq
        cases e
        obtain ⟨a, l, rfl, _, h1, h2⟩ := rl.dk hi vx
        have hg := h2.get (fun a b => k_inj) q
        refine ⟨a, valV l q.k, rfl, .inl ⟨l, q.k, .inl h1, k1_ok hq vy, rfl⟩, ?_, ?_⟩
        · cases hd : dget kvs q with
          | none => rw [hg.2 hd]; rfl
          | some z => obtain ⟨v, h3, h4⟩ := hg.1 z hd; rw [h3]; rfl
        · intro z hz
          obtain ⟨v, h3, h4⟩ := hg.1 z hz
          exact ⟨v, h3, h4⟩
      · cases e
    · cases e
  · cases e
theorem or_cmpV (hu : X.A.units + 65 < cLine) {op : CmpOp} : OpR X (compareOp op) (rC X.K nm (cmpV op)) := by
  intro pins s σ H x y v u Q I rx ry ⟨rho, h, mx, my, k, rl, vx, vy, e, q⟩
  unfold cmpV at e
  by_cases hd : isDict h my = true
  · rw [if_pos hd] at e
    split at e
    · cases hk : dictAsk h my mx with
      | none => rw [hk] at e; cases e
      | some o =>
        rw [hk] at e
        cases e
        obtain ⟨a, ov, rfl, g, hs, _⟩ := dictAsk_ok rl hk vy vx
        cases (show u = Value.ref a from ry)
        exact d_in (by omega) I g rx fun s3 I3 => ⟨.bl ov.isSome, H, I3, rfl, by rw [← hs]; exact q⟩
    · cases hk : dictAsk h my mx with
      | none => rw [hk] at e; cases e
      | some o =>
        rw [hk] at e
        cases e
        obtain ⟨a, ov, rfl, g, hs, _⟩ := dictAsk_ok rl hk vy vx
        cases (show u = Value.ref a from ry)
        exact d_notIn (by omega) I g rx fun s3 I3 => ⟨.bl (!ov.isSome), H, I3, rfl, by rw [← hs]; exact q⟩
    · exact or_cmp hu pins s σ H x y v u Q I rx ry ⟨rho, h, mx, my, k, rl, vx, vy, e, q⟩
  · rw [if_neg hd] at e
    exact or_cmp hu pins s σ H x y v u Q I rx ry ⟨rho, h, mx, my, k, rl, vx, vy, e, q⟩
def rIxD : R2 := fun x y H Q => ∃ a v, x = .ref a ∧ DGet H a y (some v) ∧ Q v H
theorem ix_dict (hu : X.A.units + 65 < cLine) : IxR X rIxD := by
  intro value slice pins s σ H x y v u Q I rx ry ⟨a, z, ex, g, q⟩ hs
  subst ex
  obtain rfl : v = Value.ref a := rx
  have hT := dict_typeIs I g
  unfold PyProof.Rows.subscriptTail
  refine wpAny_bind ?_
  rw [getitemInPython_of_ne hT.not_modules]
  refine wpAny_bind (wpAny_specialOf hT PySem.F.slot_dict_getitem.lookup ?_)
  have fin : wpAny (model X.prog X.w) X.A (subscripted slice false (.ref a) u) (fun r s₃ => wpAny (model X.prog X.w) X.A (letTemporaryGo value (.ref a) r >>= fun _ => pure r) (EP X pins σ Q) X.xe s₃) X.xe s := by
    rw [hs]
    exact wpAny_operating (d_getItem (by omega) I g ry fun w' s3 I3 rw' => wpAny_bind (wpAny_letTemporaryGo (wpAny_pure ⟨z, H, I3, rw', q⟩)))
  first
    | exact wpAny_pure (wpAny_bind fin)
    | exact wpAny_bind (wpAny_pure (wpAny_bind fin))
    | exact wpAny_bind fin
def rIxM (K : PySem.W.Frag) (nm : Nm) : R2 := fun x y H Q => ∃ rho h mx my z, Rel K nm rho h H ∧ RV K H rho mx x ∧ RV K H rho my y ∧ ixM h mx my = some z ∧ ∀ v, RV K H rho z v → Q v H
theorem ix_m (hu : X.A.units + 65 < cLine) : IxR X (rIxM X.K nm) := by
  intro value slice pins s σ H x y v u Q I rx ry ⟨rho, h, mx, my, z, rl, vx, vy, e, q⟩ hs
  cases hd : isDict h mx with
  | false => exact ix_seq value slice pins s σ H x y v u Q I rx ry (ixM_ok rl hd e vx vy q) hs
  | true =>
    have hk : dictAsk h mx my = some (some z) := by
      unfold isDict at hd
      split at hd
      · rename_i a
        simp only [ixM] at e
        simp only [dictAsk]
        split at hd
        · rename_i kvs hi
          rw [hi] at e ⊢
          cases hq : k1 my with
          | none => rw [hq] at e; cases e
          | some w =>
            rw [hq] at e
            simpa using e
        · rename_i kvs hi
          rw [hi] at e
          cases e
        · cases hd
      · cases hd
    obtain ⟨a, ov, rfl, g, _, h2⟩ := dictAsk_ok rl hk vx vy
    obtain ⟨w, rfl, h3⟩ := h2 z rfl
    exact ix_dict hu value slice pins s σ H _ y v u Q I rx ry ⟨a, w, rfl, g, q w h3⟩ hs
end
section
variable {g : GS} {C : CallS} {lv : Nat} {sc : SC} {W : WX} {X : Cx} {L : Lv}
theorem noset {b : Expr} {op : CmpOp} (h : isSet b = false) : behindInMarks op b = false := by
  cases b <;> first | rfl | cases h
theorem se_cmp {a b : Expr} {op : CmpOp} {pos : Pos} (hL : LvOk g C lv L) (E : EC g C lv sc W X) : PE X (.Compare a [op] [b] pos) (tE X.K g.nm W (stepE g C L sc (.Compare a [op] [b] pos))) := by
  cases hb : isSet b with
  | true => exact peO fun σ H Q ⟨rho, sm, h, rs, rl, rt⟩ => by simp only [stepE, hb] at rt; exact rt.elim
  | false =>
    refine peI (pe_cmpR (or_cmpV (nm := g.nm) E.hu) (hL.e X sc W a E) (hL.e X sc W b E) (noset hb)) fun σ H Q ⟨rho, sm, h, rs, rl, rt⟩ => ?_
    simp only [stepE, hb] at rt
    refine ⟨rho, sm, h, rs, rl, RT.imp (RT.bind rt) fun x H1 ⟨r1, h1, a, e1, rl1, ra, rt1⟩ => ?_⟩
    refine ⟨r1, sm, h1, rs.ex e1, rl1, RT.imp (RT.bind rt1) fun y H2 ⟨r2, h2, b, e2, rl2, rb, rt2⟩ => ?_⟩
    cases hk : cmpV op h2 a b with
    | none => rw [hk] at rt2; exact rt2.elim
    | some k =>
      rw [hk] at rt2
      exact ⟨r2, h2, a, b, k, rl2, RV.mono e2 _ _ ra, rb, hk, rt2 r2 H2 _ Ex.refl rl2 (by show RV _ _ _ _ _; unfold RV; rfl)⟩
theorem st_cmp {a b : Expr} {op : CmpOp} {pos : Pos} (hL : LvOk g C lv L) (E : EC g C lv sc W X) : PT X (.Compare a [op] [b] pos) (tT X.K g.nm W (stepT g C L sc (.Compare a [op] [b] pos))) := by
  cases hb : isSet b with
  | true => exact ptO fun σ H Q ⟨rho, sm, h, rs, rl, rt⟩ => by simp only [stepT, hb] at rt; exact rt.elim
  | false =>
    refine ptI (pt_cmpR (or_cmpV (nm := g.nm) E.hu) (hL.e X sc W a E) (hL.e X sc W b E) (noset hb)) fun σ H Q ⟨rho, sm, h, rs, rl, rt⟩ => ?_
    simp only [stepT, hb] at rt
    refine ⟨rho, sm, h, rs, rl, RT.imp (RT.bind rt) fun x H1 ⟨r1, h1, a, e1, rl1, ra, rt1⟩ => ?_⟩
    refine ⟨r1, sm, h1, rs.ex e1, rl1, RT.imp (RT.bind rt1) fun y H2 ⟨r2, h2, b, e2, rl2, rb, rt2⟩ => ?_⟩
    cases hk : cmpV op h2 a b with
    | none => rw [hk] at rt2; exact rt2.elim
    | some k =>
      rw [hk] at rt2
      exact ⟨r2, h2, a, b, k, rl2, RV.mono e2 _ _ ra, rb, hk, k, rfl, rt2 r2 H2 _ Ex.refl rl2 rfl⟩
theorem se_chain {a b c : Expr} {op op' : CmpOp} {pos : Pos} (hL : LvOk g C lv L) (E : EC g C lv sc W X) : PE X (.Compare a [op, op'] [b, c] pos) (tE X.K g.nm W (stepE g C L sc (.Compare a [op, op'] [b, c] pos))) := by
  cases hb : isSet c with
  | true => exact peO fun σ H Q ⟨rho, sm, h, rs, rl, rt⟩ => by simp only [stepE, hb] at rt; exact rt.elim
  | false =>
    refine peI (pe_chain (or_cmp (nm := g.nm) E.hu) (or_cmp (nm := g.nm) E.hu) (hL.e X sc W a E) (hL.e X sc W b E) (hL.e X sc W c E) (show behindInMarks op' c = false from noset hb)) fun σ H Q ⟨rho, sm, h, rs, rl, rt⟩ => ?_
    simp only [stepE, hb] at rt
    refine ⟨rho, sm, h, rs, rl, RT.imp (RT.bind rt) fun x H1 ⟨r1, h1, a, e1, rl1, ra, rt1⟩ => ?_⟩
    refine ⟨r1, sm, h1, rs.ex e1, rl1, RT.imp (RT.bind rt1) fun y H2 ⟨r2, h2, b, e2, rl2, rb, rt2⟩ => ?_⟩
    cases hk : cmpM op h2 a b with
    | none => rw [hk] at rt2; exact rt2.elim
    | some k =>
      rw [hk] at rt2
      refine ⟨r2, h2, a, b, k, rl2, RV.mono e2 _ _ ra, rb, hk, k, rfl, ?_⟩
      cases k with
      | false => exact rt2 r2 H2 _ Ex.refl rl2 (by show RV _ _ _ _ _; unfold RV; rfl)
      | true =>
        refine ⟨r2, sm, h2, (rs.ex e1).ex e2, rl2, RT.imp (RT.bind rt2) fun z H3 ⟨r3, h3, c, e3, rl3, rc, rt3⟩ => ?_⟩
        cases hk' : cmpM op' h3 b c with
        | none => rw [hk'] at rt3; exact rt3.elim
        | some k' =>
          rw [hk'] at rt3
          exact ⟨r3, h3, b, c, k', rl3, RV.mono e3 _ _ rb, rc, hk', rt3 r3 H3 _ Ex.refl rl3 (by show RV _ _ _ _ _; unfold RV; rfl)⟩
theorem st_chain {a b c : Expr} {op op' : CmpOp} {pos : Pos} (hL : LvOk g C lv L) (E : EC g C lv sc W X) : PT X (.Compare a [op, op'] [b, c] pos) (tT X.K g.nm W (stepT g C L sc (.Compare a [op, op'] [b, c] pos))) := by
  cases hb : isSet c with
  | true => exact ptO fun σ H Q ⟨rho, sm, h, rs, rl, rt⟩ => by simp only [stepT, hb] at rt; exact rt.elim
  | false =>
    refine ptI (pt_chain (or_cmp (nm := g.nm) E.hu) (or_cmp (nm := g.nm) E.hu) (hL.e X sc W a E) (hL.e X sc W b E) (hL.e X sc W c E) (show behindInMarks op' c = false from noset hb)) fun σ H Q ⟨rho, sm, h, rs, rl, rt⟩ => ?_
    simp only [stepT, hb] at rt
    refine ⟨rho, sm, h, rs, rl, RT.imp (RT.bind rt) fun x H1 ⟨r1, h1, a, e1, rl1, ra, rt1⟩ => ?_⟩
    refine ⟨r1, sm, h1, rs.ex e1, rl1, RT.imp (RT.bind rt1) fun y H2 ⟨r2, h2, b, e2, rl2, rb, rt2⟩ => ?_⟩
    cases hk : cmpM op h2 a b with
    | none => rw [hk] at rt2; exact rt2.elim
    | some k =>
      rw [hk] at rt2
      refine ⟨r2, h2, a, b, k, rl2, RV.mono e2 _ _ ra, rb, hk, k, rfl, ?_⟩
      cases k with
      | false => exact ⟨false, rfl, rt2 r2 H2 _ Ex.refl rl2 rfl⟩
      | true =>
        refine ⟨r2, sm, h2, (rs.ex e1).ex e2, rl2, RT.imp (RT.bind rt2) fun z H3 ⟨r3, h3, c, e3, rl3, rc, rt3⟩ => ?_⟩
        cases hk' : cmpM op' h3 b c with
        | none => rw [hk'] at rt3; exact rt3.elim
        | some k' =>
          rw [hk'] at rt3
          exact ⟨r3, h3, b, c, k', rl3, RV.mono e3 _ _ rb, rc, hk', k', rfl, rt3 r3 H3 _ Ex.refl rl3 rfl⟩
theorem se_if {t a b : Expr} {pos : Pos} (hL : LvOk g C lv L) (E : EC g C lv sc W X) : PE X (.IfExp t a b pos) (tE X.K g.nm W (stepE g C L sc (.IfExp t a b pos))) :=
  peI (pe_ifExp (hL.t X sc W t E) (hL.e X sc W a E) (hL.e X sc W b E)) fun σ H Q ⟨rho, sm, h, rs, rl, rt⟩ => by
    refine ⟨rho, sm, h, rs, rl, RT.imp (RT.bind rt) fun k H1 ⟨r1, h1, a, e1, rl1, ra, rt1⟩ => ?_⟩
    cases (show a = k from ra)
    cases k with
    | true => exact ⟨r1, sm, h1, rs.ex e1, rl1, rt1⟩
    | false => exact ⟨r1, sm, h1, rs.ex e1, rl1, rt1⟩
theorem se_tuple {es : List Expr} {k : Nat} {pos : Pos} (hL : LvOk g C lv L) (E : EC g C lv sc W X) : PE X (.Tuple es k pos) (tE X.K g.nm W (stepE g C L sc (.Tuple es k pos))) := by
  cases hp : plainA es with
  | false => exact peO fun σ H Q ⟨rho, sm, h, rs, rl, rt⟩ => by simp only [stepE, hp] at rt; exact rt.elim
  | true =>
    refine peI (pe_tup (sa_args hL E hp)) fun σ H Q ⟨rho, sm, h, rs, rl, rt⟩ => ?_
    simp only [stepE, hp] at rt
    refine ⟨rho, sm, h, rs, rl, RT.imp (RT.bind rt) fun x H1 ⟨r1, h1, a, e1, rl1, ra, rt1⟩ => ?_⟩
    split at rt1
    · rename_i hl
      refine ⟨?_, fun p hp => RT.tup rt1 rl1 ra hp⟩
      rw [← RVs.length (show RVs _ _ _ _ _ from ra), ← lim_eq]; exact hl
    · exact rt1.elim
theorem se_list {es : List Expr} {pos : Pos} (hL : LvOk g C lv L) (E : EC g C lv sc W X) : PE X (.List es pos) (tE X.K g.nm W (stepE g C L sc (.List es pos))) := by
  cases hp : plainA es with
  | false => exact peO fun σ H Q ⟨rho, sm, h, rs, rl, rt⟩ => by simp only [stepE, hp] at rt; exact rt.elim
  | true =>
    refine peI (pe_lst (sa_args hL E hp)) fun σ H Q ⟨rho, sm, h, rs, rl, rt⟩ => ?_
    simp only [stepE, hp] at rt
    refine ⟨rho, sm, h, rs, rl, RT.imp (RT.bind rt) fun x H1 ⟨r1, h1, a, e1, rl1, ra, rt1⟩ => ?_⟩
    split at rt1
    · rename_i hl
      refine ⟨?_, fun p hp => RT.lst rt1 rl1 ra hp⟩
      rw [← RVs.length (show RVs _ _ _ _ _ from ra), ← lim_eq]; exact hl
    · exact rt1.elim
theorem se_dict {pos : Pos} : PE X (.Dict [] [] pos) (tE X.K g.nm W (stepE g C L sc (.Dict [] [] pos))) :=
  peI pe_dnewK fun σ H Q ⟨rho, sm, h, rs, rl, rt⟩ p hp => RT.dk rt rl (by unfold RD; rfl) hp
theorem plainO_base {o : Expr} (h : plainO o = true) (f : Str) (env : Env) : attributeBase o f env (eval o env) = eval o env := by
  unfold plainO at h
  split at h <;> first | rfl | cases h
theorem RF.getf {K : PySem.W.Frag} {nm : Nm} {H : Hp} {rho : List Addr} (hn : nm.attrs.Nodup) {x : Str} {k : Nat} (hx : idx x nm.attrs = some k) : ∀ {l : List (Nat × MV)} {t : List (Str × V)}, RF K nm H rho l t →
    match fget l k with
    | some z => ∃ v, t.lookup x = some v ∧ RV K H rho z v
    | none => t.lookup x = none
  | [], t, h => by
    unfold RF at h
    subst h
    rfl
  | (j, z) :: r, t, h => by
    unfold RF at h
    obtain ⟨v, t', rfl, hj, rz, hr⟩ := h
    have ih := RF.getf hn hx hr
    have hk := idx_at hx
    unfold fget
    by_cases e : j = k
    · subst e
      rw [if_pos rfl]
      refine ⟨v, ?_, rz⟩
      have : nm.attr j = x := by
        unfold Nm.attr
        rw [List.getD_eq_getElem?_getD, hk]; rfl
      rw [this]
      simp
    · rw [if_neg e]
      have hne : (x == nm.attr j) = false := by
        rw [beq_eq_false_iff_ne]
        intro z
        apply e
        have e1 : nm.attrs[j]? = some (nm.attr j) := by
          unfold Nm.attr
          rw [List.getD_eq_getElem?_getD, List.getElem?_eq_getElem hj]; rfl
        rw [← z] at e1
        obtain ⟨p1, q1⟩ := List.getElem?_eq_some_iff.mp e1
        obtain ⟨p2, q2⟩ := List.getElem?_eq_some_iff.mp hk
        exact (List.getElem_inj hn).mp (q1.trans q2.symm)
      rw [List.lookup_cons, hne]
      exact ih
end
end Mn
end

section
set_option autoImplicit false
set_option linter.all false
set_option maxRecDepth 100000
set_option maxHeartbeats 1000000
/-! attributes, subscripts, calls of functions -/
namespace Mn
open PySem PySem.Spec L2
section
variable {g : GS} {C : CallS} {lv : Nat} {sc : SC} {W : WX} {X : Cx} {L : Lv}
theorem GS.own_ok {c : Nat} (h : g.own c = true) : ∃ x, g.nm.clss[c]? = some x ∧ g.nm.cls c = x ∧ g.excs.lookup c = none := by
  unfold GS.own at h
  simp only [Bool.and_eq_true, decide_eq_true_eq, Option.isNone_iff_eq_none] at h
  refine ⟨g.nm.clss[c]'h.1, List.getElem?_eq_getElem h.1, ?_, h.2⟩
  unfold Nm.cls
  rw [List.getD_eq_getElem?_getD, List.getElem?_eq_getElem h.1]; rfl
theorem idx_mem {l : List Str} {x : Str} {i : Nat} (h : idx x l = some i) : x ∈ l := List.mem_of_getElem? (idx_at h)
theorem se_attr {o : Expr} {f : Str} {pos : Pos} (hL : LvOk g C lv L) (E : EC g C lv sc W X) : PE X (.Attribute o f pos) (tE X.K g.nm W (stepE g C L sc (.Attribute o f pos))) := by
  cases ho : plainO o with
  | false => exact peO fun σ H Q ⟨rho, sm, h, rs, rl, rt⟩ => by simp only [stepE, ho] at rt; exact rt.elim
  | true =>
    refine peI (pe_fld (hL.e X sc W o E) (plainO_base ho f X.env)) fun σ H Q ⟨rho, sm, h, rs, rl, rt⟩ => ?_
    simp only [stepE, ho] at rt
    refine ⟨rho, sm, h, rs, rl, RT.imp (RT.bind rt) fun x H1 ⟨r1, h1, a, e1, rl1, ra, rt1⟩ => ?_⟩
    split at rt1
    · rename_i i
      split at rt1
      · rename_i c fs k hi hk
        split at rt1
        · rename_i hc
          obtain ⟨z, hz, rt2⟩ := rt_opt rt1
          obtain ⟨y, hy, hn, hx⟩ := GS.own_ok hc
          obtain ⟨_, hC, hA⟩ := E.gok.cls c y hy hx
          obtain ⟨a, dx, l, rfl, _, h3, h4⟩ := rl1.ins' hi ra
          have hf := h4.getf E.gok.attrs hk
          rw [hz] at hf
          obtain ⟨v, h5, h6⟩ := hf
          rw [hn] at h3
          exact ⟨a, _, dx, l, v, rfl, h3, hC, hA f (idx_mem hk), h5, rt2 r1 H1 v Ex.refl rl1 h6⟩
        · exact rt1.elim
      · exact rt1.elim
    · exact rt1.elim
theorem plainIx {i : Expr} (h : ∀ a b c p, i ≠ .Slice a b c p) : PlainIx i := by
  intro o iv
  cases i <;> first | rfl | exact absurd rfl (h _ _ _ _)
theorem se_sub {o i : Expr} {pos : Pos} (hL : LvOk g C lv L) (E : EC g C lv sc W X) (hi : ∀ a b c p, i ≠ .Slice a b c p) : PE X (.Subscript o i pos) (tE X.K g.nm W (stepE g C L sc (.Subscript o i pos))) := by
  refine peI (pe_ix (ix_m (nm := g.nm) E.hu) (hL.e X sc W o E) (hL.e X sc W i E) (plainIx hi)) fun σ H Q ⟨rho, sm, h, rs, rl, rt⟩ => ?_
  have e : stepE g C L sc (.Subscript o i pos) sm h = (L.e sc o sm h).bind fun x h1 => (L.e sc i sm h1).bind fun y h2 => opt (ixM h2 x y) h2 := by
    cases i <;> first | rfl | exact absurd rfl (hi _ _ _ _)
  rw [e] at rt
  refine ⟨rho, sm, h, rs, rl, RT.imp (RT.bind rt) fun x H1 ⟨r1, h1, a, e1, rl1, ra, rt1⟩ => ?_⟩
  refine ⟨r1, sm, h1, rs.ex e1, rl1, RT.imp (RT.bind rt1) fun y H2 ⟨r2, h2, b, e2, rl2, rb, rt2⟩ => ?_⟩
  obtain ⟨z, hz, rt3⟩ := rt_opt rt2
  exact ⟨r2, h2, a, b, z, rl2, RV.mono e2 _ _ ra, rb, hz, fun v hv => rt3 r2 H2 v Ex.refl rl2 hv⟩
theorem so_part (hL : LvOk g C lv L) (E : EC g C lv sc W X) : ∀ (o : Option Expr), PO X o (tO X.K g.nm W (evAt sc o (L.e sc)))
  | none => ⟨fun pins s σ H Q I ⟨rho, sm, h, rs, rl, rt⟩ => po_none.run pins s σ H Q I (rt rho H none Ex.refl rl rfl)⟩
  | some e => ⟨fun pins s σ H Q I ⟨rho, sm, h, rs, rl, rt⟩ => (po_some (hL.e X sc W e E)).run pins s σ H Q I ⟨rho, sm, h, rs, rl, RT.imp (RT.bind rt) fun x H1 ⟨r1, h1, a, e1, rl1, ra, rt1⟩ => by
      split at rt1
      · exact ⟨_, ra.int, rt1 r1 H1 _ Ex.refl rl1 rfl⟩
      · exact rt1.elim⟩⟩
theorem se_slice {o : Expr} {lo hi : Option Expr} {p2 pos : Pos} (hL : LvOk g C lv L) (E : EC g C lv sc W X) : PE X (.Subscript o (.Slice lo hi none p2) pos) (tE X.K g.nm W (stepE g C L sc (.Subscript o (.Slice lo hi none p2) pos))) :=
  peI (pe_slice (sl_m (nm := g.nm)) (hL.e X sc W o E) (so_part hL E lo) (so_part hL E hi)) fun σ H Q ⟨rho, sm, h, rs, rl, rt⟩ => by
    refine ⟨rho, sm, h, rs, rl, RT.imp (RT.bind rt) fun x H1 ⟨r1, h1, a, e1, rl1, ra, rt1⟩ => ?_⟩
    refine ⟨r1, sm, h1, rs.ex e1, rl1, RT.imp (RT.bind rt1) fun y H2 ⟨r2, h2, b, e2, rl2, rb, rt2⟩ => ?_⟩
    cases (show b = y from rb)
    refine ⟨r2, sm, h2, (rs.ex e1).ex e2, rl2, RT.imp (RT.bind rt2) fun z H3 ⟨r3, h3, c, e3, rl3, rc, rt3⟩ => ?_⟩
    cases (show c = z from rc)
    exact ⟨r3, h3, a, W, σ, rl3, RV.mono (e2.trans e3) _ _ ra, rt3⟩
/-! ### calls -/
/-- a call of a value by values, the slots known -/
def CallG (X : Cx) (f : Value) (r : L2.St → List V → Hp → VK → Prop) : Prop :=
  ∀ (pins : List (Addr × Obj)) (s : Shared) (σ : L2.St) (H : Hp) (xs : List V) (us : List Value) (Q : VK), Inv X pins σ H s → Vals xs us → r σ xs H Q →
    wpAny (model X.prog X.w) X.A (call f us) (EP X pins σ Q) X.xe s
def rG (K : PySem.W.Frag) (nm : Nm) (W : WX) (F : List MV → MH → Res MV) : L2.St → List V → Hp → VK → Prop := fun σ xs H Q => ∃ rho h ms, Rel K nm rho h H ∧ RVs K H rho ms xs ∧ RT K nm (relV' K) W σ Q rho H (F ms h)
theorem pass_ok {f : FI} (E : EC g C lv sc W X) (σ : L2.St) : PassesAt (cxM X.prog X.w f.cn) X σ (if (sc.md && !f.cn) = true then fun _ _ _ => False else WE W σ) := by
  cases hc : f.cn with
  | true =>
    have : (if (sc.md && !true) = true then (fun _ _ _ => False : XK) else WE W σ) = WE W σ := by simp
    rw [this]
    exact L2N.passAt E.tkN σ
  | false =>
    cases hm : sc.md with
    | false => exact L2.passAt (E.tk hm) σ
    | true =>
      intro pins H s e s' I c
      obtain ⟨_, _, _, _, _, _, _, _, _, _, _, _, c⟩ := (show L2.CX X.prog X.w X.stack H s _ e s' from c)
      exact c.elim
theorem call_i (E : EC g C lv sc W X) {i : Nat} {f : FI} (hf : g.funs[i]? = some f) : CallG X (.ref (He.fAd X.K f.at_)) (rG X.K g.nm W (callI g C sc.md i)) := by
  intro pins s σ H xs us Q I r ⟨rho, h, ms, rl, rv, rt⟩
  obtain ⟨fd, F, _, hd⟩ := E.gok.fn i f hf
  simp only [callI, hf] at rt
  split at rt
  · rename_i hn
    obtain ⟨dvs, ds, h1, h2, h3⟩ := hd ms.length hn.1 hn.2
    refine run_fnSD (E := fun σ => if (sc.md && !f.cn) = true then fun _ _ _ => False else WE W σ) F (E.room.mono (Nat.le_succ _)) h3 h2 (pass_ok E σ) I r ?_
    refine ⟨?_, rho, h, _, rv.append (h1 rho H), rl, ?_⟩
    · have e1 := (rv.append (h1 rho H)).length
      rw [← e1, List.length_append, List.length_drop]
      omega
    · cases hC : C i (ms ++ List.drop (ms.length + f.dfl.length - f.ps.length) f.dfl) h with
      | ok z h1 => rw [hC] at rt; exact rt
      | err => rw [hC] at rt; exact rt
      | ex e h1 =>
        rw [hC] at rt
        cases hg : (sc.md && !f.cn) with
        | true =>
          rw [hg] at rt
          exact rt.elim
        | false =>
          rw [hg] at rt
          exact rt
  · exact rt.elim
theorem keep_i (E : EC g C lv sc W X) {i : Nat} {f : FI} (hf : g.funs[i]? = some f) : PySem.W.keepIn X.K (.ref (He.fAd X.K f.at_)) = true := by
  obtain ⟨fd, _, h, _⟩ := E.gok.fn i f hf
  exact h
theorem findFun_at : ∀ {fs : List FI} {p : Str × Option Str} {i : Nat}, findFun fs p = some i → ∃ f, fs[i]? = some f ∧ f.at_ = p
  | [], p, i, h => by cases h
  | f :: r, p, i, h => by
    unfold findFun at h
    split at h
    · rename_i e
      cases h
      exact ⟨f, rfl, e⟩
    · cases q : findFun r p with
      | none => rw [q] at h; cases h
      | some j =>
        rw [q] at h
        simp at h
        subst h
        simpa using findFun_at q
/-- a new instance -/
def mkM (g : GS) (C : CallS) (md : Bool) (c j : Nat) (vs : List MV) (h : MH) : Res MV := (callI g C md j (.ref h.length :: vs) (h ++ [.ins c []])).bind fun v h2 => match v with
        | .non => .ok (.ref h.length) h2
        | _ => .err
theorem call_mk (E : EC g C lv sc W X) {c j : Nat} {f : FI} {x : Str} (hf : g.funs[j]? = some f) (ha : f.at_ = (x, some initN)) (hc : g.nm.clss[c]? = some x) (hx : g.excs.lookup c = none) :
    CallG X (.ref (He.ga X.K x)) (rG X.K g.nm W (mkM g C sc.md c j)) := by
  intro pins s σ H xs us Q I r ⟨rho, h, ms, rl, rv, rt⟩
  have M := E.gok.mkc j f x c hf ha hc hx
  have hx1 : H (s.heap.objs.size + 1) = none := I.hok.fresh (Nat.le_succ _)
  have hx2 : H s.heap.objs.size = none := I.hok.fresh (Nat.le_refl _)
  have hne : s.heap.objs.size ≠ s.heap.objs.size + 1 := Nat.ne_of_lt (Nat.lt_succ_self _)
  have I2 := Inv.made (C := He.ga X.K x) I
  have hxu : (upd H s.heap.objs.size (.own (s.heap.objs.size + 1))) (s.heap.objs.size + 1) = none := by rw [upd_ne (Ne.symm hne)]; exact hx1
  have e1 : Ex X.K rho H rho (upd H s.heap.objs.size (.own (s.heap.objs.size + 1))) := Ex.fresh0 hx2
  have e2 : Ex X.K rho (upd H s.heap.objs.size (.own (s.heap.objs.size + 1))) (rho ++ [s.heap.objs.size + 1]) (upd (upd H s.heap.objs.size (.own (s.heap.objs.size + 1))) (s.heap.objs.size + 1) (.ins (He.ga X.K x) s.heap.objs.size [])) := Ex.fresh hxu
  have hcx : g.nm.cls c = x := by
    unfold Nm.cls
    rw [List.getD_eq_getElem?_getD, hc]; rfl
  have rl2 : Rel X.K g.nm (rho ++ [s.heap.objs.size + 1]) (h ++ [.ins c []]) (upd (upd H s.heap.objs.size (.own (s.heap.objs.size + 1))) (s.heap.objs.size + 1) (.ins (He.ga X.K x) s.heap.objs.size [])) :=
    (rl.aside hx2).alloc hxu ⟨s.heap.objs.size, [], by rw [hcx]; exact upd_same, by unfold RF; rfl⟩
  have rv0 : RV X.K (upd (upd H s.heap.objs.size (.own (s.heap.objs.size + 1))) (s.heap.objs.size + 1) (.ins (He.ga X.K x) s.heap.objs.size [])) (rho ++ [s.heap.objs.size + 1]) (.ref h.length) (.ref (s.heap.objs.size + 1)) := by
    unfold RV
    exact ⟨_, by rw [← rl.len]; simp, rfl⟩
  have rvs : RVs X.K _ _ (.ref h.length :: ms) (V.ref (s.heap.objs.size + 1) :: xs) := RVs.mk rv0 (RVs.mono (e1.trans e2) _ _ rv)
  obtain ⟨fd, F, _, hd⟩ := E.gok.fn j f hf
  simp only [mkM, callI, hf] at rt
  by_cases hn : (MV.ref h.length :: ms).length ≤ f.ps.length ∧ f.ps.length ≤ (MV.ref h.length :: ms).length + f.dfl.length
  · rw [if_pos hn] at rt
    obtain ⟨dvs, ds, h1, h2, h3⟩ := hd _ hn.1 hn.2
    have r2 : Vals (V.ref (s.heap.objs.size + 1) :: (xs ++ dvs)) (Value.ref (s.heap.objs.size + 1) :: (us ++ ds)) := .cons rfl (r.append h2)
    have hq : spM X.K g.nm f.ps.length (C j) (V.ref (s.heap.objs.size + 1) :: (xs ++ dvs)) (upd (upd H s.heap.objs.size (.own (s.heap.objs.size + 1))) (s.heap.objs.size + 1) (.ins (He.ga X.K x) s.heap.objs.size [])) (fun v H2 => v = .non ∧ Q (.ref (s.heap.objs.size + 1)) H2) (if (sc.md && !f.cn) = true then fun _ _ _ => False else WE W σ) := by
      refine ⟨?_, _, _, _, rvs.append (h1 _ _), rl2, ?_⟩
      · have e1 := (rvs.append (h1 (rho ++ [s.heap.objs.size + 1]) (upd (upd H s.heap.objs.size (.own (s.heap.objs.size + 1))) (s.heap.objs.size + 1) (.ins (He.ga X.K x) s.heap.objs.size [])))).length
        refine e1.symm.trans ?_
        simp only [List.cons_append, List.length_cons, List.length_append, List.length_drop] at hn ⊢
        omega
      · cases hC : C j ((.ref h.length :: ms) ++ List.drop ((MV.ref h.length :: ms).length + f.dfl.length - f.ps.length) f.dfl) (h ++ [.ins c []]) with
        | err => rw [hC] at rt; exact rt
        | ex e h1 =>
          rw [hC] at rt
          cases hg : (sc.md && !f.cn) with
          | true => rw [hg] at rt; exact rt.elim
          | false =>
            rw [hg] at rt
            exact fun r' H' c' d' x1 x2 x3 => rt r' H' c' d' ((e1.trans e2).trans x1) x2 x3
        | ok z h1 =>
          rw [hC] at rt
          cases z with
          | non => exact fun r' H' b x1 x2 x3 => ⟨RV.non x3, rt r' H' _ ((e1.trans e2).trans x1) x2 (RV.mono x1 _ _ rv0)⟩
          | _ => exact rt.elim
    have hl : (Value.ref (s.heap.objs.size + 1) :: us ++ ds).length = f.ps.length := by
      have e := r2.length
      rw [F.len _ _ _ _ hq] at e
      exact e.symm
    refine wpAny_call (make_map (f := He.fAd X.K f.at_) I.kIn M.makes M.init (beq_iff_eq.mp M.fn) (codeAny_mono (F.run _ X.stack _ _ ⟨Value.ref (s.heap.objs.size + 1) :: us, []⟩ (Value.ref (s.heap.objs.size + 1) :: (us ++ ds)) _ _ _ (E.room.make (He.ga X.K x) us [])
      (I2.env0.make (He.ga X.K x) us []) (h3 _ (Value.ref (s.heap.objs.size + 1) :: us) I2.kIn hl) r2 hq) fun r s' hq' => ?_))
    cases r with
    | error e => exact pass_ok E σ pins _ _ e s' I2 hq'
    | ok fl =>
      cases fl with
      | ret u =>
        obtain ⟨v, H', I3, rv, ev, q3⟩ := I2.after hq'
        subst ev
        exact ⟨rv, ⟨V.ref (s.heap.objs.size + 1), H', I3, rfl, q3⟩⟩
      | next => exact False.elim hq'
      | brk => exact False.elim hq'
      | cont => exact False.elim hq'
  · rw [if_neg hn] at rt
    exact rt.elim
end
end Mn
end

section
set_option autoImplicit false
set_option linter.all false
set_option maxRecDepth 100000
set_option maxHeartbeats 1000000
/-! calls of names -/
namespace Mn
open PySem PySem.Spec L2
theorem tyS_ok {x : Str} {T : String} (h : tyS x = some T) : bootBuiltins x = some (.type T) ∧ x ≠ ("__name__" : Str) ∧ (T = "str" ∨ T = "int" ∨ T = "bool" ∨ T = "list" ∨ T = "tuple" ∨ T = "dict") := by
  unfold tyS at h
  repeat' split at h
  all_goals first
    | (rename_i e; cases h; subst e; first
        | exact ⟨PyProof.Rows.boot_str, by decide, by simp⟩
        | exact ⟨PyProof.Rows.boot_int, by decide, by simp⟩
        | exact ⟨PyProof.Rows.boot_bool, by decide, by simp⟩
        | exact ⟨PyProof.Rows.boot_list, by decide, by simp⟩
        | exact ⟨PyProof.Rows.boot_tuple, by decide, by simp⟩
        | exact ⟨PyProof.Rows.boot_dict, by decide, by simp⟩)
    | cases h
theorem kit_in : ∀ a ∈ ["NoneType", "bool", "int", "str", "tuple", "list", "dict"], ∀ b ∈ ["str", "int", "bool", "list", "tuple", "dict"], kitB a b = some (isinM a b) := by decide +kernel
section
variable {K : PySem.W.Frag} {nm : Nm} {H : Hp} {rho : List Addr}
theorem ty_ok {h : MH} {x : MV} {v : V} {T : String} (rl : Rel K nm rho h H) (e : tyM h x = some T) (r : RV K H rho x v) : TyX K H v (.type T) ∧ T ∈ ["NoneType", "bool", "int", "str", "tuple", "list", "dict"] := by
  cases x with
  | non => cases e; rw [r.non]; exact ⟨.base .non, by decide⟩
  | bl b => cases e; rw [r.bl]; exact ⟨.base (.bl b), by decide⟩
  | int b => cases e; rw [r.int]; exact ⟨.base (.int b), by decide⟩
  | str b => cases e; rw [r.str]; exact ⟨.base (.str _), by decide⟩
  | tup xs => cases e; obtain ⟨a, vs, rfl, h1, _⟩ := r.tup; exact ⟨.base (.tup h1), by decide⟩
  | kt xs => cases e; obtain ⟨a, vs, rfl, ⟨o, its, n, h1, h2, _⟩, _⟩ := r.kt; exact ⟨.kTuple h1 h2, by decide⟩
  | sq xs =>
    cases e
    obtain ⟨a, vs, rfl, h1, _⟩ := r.sq
    rcases h1 with ⟨o, h1⟩ | ⟨o, its, n, h1, h2, _⟩
    · exact ⟨.base (.frz h1), by decide⟩
    · exact ⟨.kList h1 h2, by decide⟩
  | ref i =>
    simp only [tyM] at e
    split at e
    · rename_i xs hi
      cases e
      obtain ⟨a, vs, rfl, _, h1, _⟩ := rl.lst hi r
      exact ⟨.base (.lst h1), by decide⟩
    · rename_i xs hi
      cases e
      obtain ⟨a, vs, rfl, _, h1, _⟩ := rl.dk hi r
      exact ⟨.base (.dK h1), by decide⟩
    · rename_i xs hi
      cases e
      obtain ⟨a, h1, rfl⟩ := r.ref
      obtain ⟨l, h3, _⟩ := rl.ob i _ a hi h1
      exact ⟨.base (.dT h3), by decide⟩
    · cases e
end
section
variable {g : GS} {C : CallS} {lv : Nat} {sc : SC} {W : WX} {X : Cx} {L : Lv}
theorem pe_callG {f : Value} {r : L2.St → List V → Hp → VK → Prop} {x : Str} {p pos : Pos} {es : List Expr} {t : TA} (hc : CallG X f r) (hg : Gl X x) (hm : X.mg x = some f) (hk : PySem.W.keepIn X.K f = true) (ho : odd x = false) (hp : plainA es = true)
    (ha : PA X es t) (h0 : ∀ σ H Q, es = [] → t σ H Q → Q [] H) : PE X (.Call (.Name x p) es [] pos) (fun σ H Q => t σ H fun vs H1 => r σ vs H1 Q) := by
  refine ⟨fun pins s σ H Q I h => ?_⟩
  refine wpAny_Call_Name_kw (ld_glob I hg hm ?_ (odd_dbg ho))
  cases es with
  | nil => exact PySem.W.callWith_K0 I.kIn hk (hc pins s σ H [] [] Q I .nil (h0 _ _ _ rfl h))
  | cons e es =>
    exact PySem.W.callWith_K (h₀ := X.base) I.ok.mod.kin hk (thn (ha.run pos pins s σ H _ I h) fun us s1 ⟨vs, H1, I1, r, q⟩ => ⟨I1.kIn, hc pins s1 σ H1 vs us Q I1 r q⟩) (plain_star hp _) (plain_any (plain_tail hp) _ _)
theorem se_callG {f : Value} {F : List MV → MH → Res MV} {x : Str} {p pos : Pos} {es : List Expr} (hL : LvOk g C lv L) (E : EC g C lv sc W X) (hc : CallG X f (rG X.K g.nm W F)) (hg : sc.gl x = true) (hm : X.mg x = some f) (hk : PySem.W.keepIn X.K f = true) (hp : plainA es = true) :
    PE X (.Call (.Name x p) es [] pos) (tE X.K g.nm W fun sm h => (evA (L.e sc) es sm h).bind F) := by
  refine peI (pe_callG hc (E.gl hg) hm hk (gl_of hg).1 hp (sa_args hL E hp) ?_) fun σ H Q ⟨rho, sm, h, rs, rl, rt⟩ => ?_
  · intro σ H Q he ⟨rho, sm, h, rs, rl, rt⟩
    subst he
    exact rt rho H [] Ex.refl rl (by show RVs _ _ _ _ _; unfold RVs; rfl)
  · refine ⟨rho, sm, h, rs, rl, RT.imp (RT.bind rt) fun vs H1 ⟨r1, h1, a, e1, rl1, ra, rt1⟩ => ?_⟩
    exact ⟨r1, h1, a, rl1, ra, rt1⟩
theorem bltS_ok {x : Str} (h : bltS x = true) (hc : X.calm = true) (hu : X.A.units + 65 < cLine) : x ≠ ("__name__" : Str) ∧ ∃ (f : Value), bootBuiltins x = some f ∧ CallR X f (rM X.K g.nm (blt x)) ∧ ((∃ i, f = .builtin i) ∨ ∃ T, f = .type T) := by
  unfold bltS at h
  simp only [Bool.or_eq_true, decide_eq_true_eq] at h
  rcases h with h | h | h | h | h | h | h | h | h <;> subst h
  · exact ⟨by decide, _, boot_len, cb_len, .inl ⟨_, rfl⟩⟩
  · exact ⟨by decide, _, PyProof.Rows.boot_str, cb_str, .inr ⟨_, rfl⟩⟩
  · exact ⟨by decide, _, PyProof.Rows.boot_int, cb_int, .inr ⟨_, rfl⟩⟩
  · exact ⟨by decide, _, PyProof.Rows.boot_ord, cb_ord, .inl ⟨_, rfl⟩⟩
  · exact ⟨by decide, _, PyProof.Rows.boot_max, cb_max hc, .inl ⟨_, rfl⟩⟩
  · exact ⟨by decide, _, PyProof.Rows.boot_min, cb_min hc, .inl ⟨_, rfl⟩⟩
  · exact ⟨by decide, _, PyProof.Rows.boot_list, cb_list, .inr ⟨_, rfl⟩⟩
  · exact ⟨by decide, _, PyProof.Rows.boot_dict, cb_dict, .inr ⟨_, rfl⟩⟩
  · exact ⟨by decide, _, PyProof.Rows.boot_sorted, cb_sorted hc hu, .inl ⟨_, rfl⟩⟩
theorem se_callN {x : Str} {p pos : Pos} {es : List Expr} (hL : LvOk g C lv L) (E : EC g C lv sc W X) (hg : sc.gl x = true) (hp : plainA es = true) (hk : okN g x es = true) :
    PE X (.Call (.Name x p) es [] pos) (tE X.K g.nm W fun sm h => (evA (L.e sc) es sm h).bind fun vs h1 => callN g C sc.md x vs h1) := by
  unfold okN at hk
  cases hf : g.fun? x with
  | some i =>
    obtain ⟨f, h1, h2⟩ := findFun_at hf
    have e : (fun vs h1 => callN g C sc.md x vs h1) = fun vs h1 => callI g C sc.md i vs h1 := by
      funext vs h1
      simp only [callN, hf]
    rw [e]
    exact se_callG hL E (call_i E h1) hg (E.gok.glo i f x h1 h2) (keep_i E h1) hp
  | none =>
    rw [hf] at hk
    cases hc : g.cls? x with
    | some c =>
      rw [hc] at hk
      simp only [Bool.and_eq_true] at hk
      obtain ⟨j, hj⟩ := Option.isSome_iff_exists.mp hk.1
      have e : (fun vs h1 => callN g C sc.md x vs h1) = fun vs h1 => mkM g C sc.md c j vs h1 := by
        funext vs h1
        simp only [callN, hf, hc, hj, mkM]
        all_goals congr 1
      rw [e]
      obtain ⟨y, hy, hn, hx⟩ := GS.own_ok hk.2
      have hy2 : y = x := by
        have := idx_at hc
        rw [hy] at this
        exact Option.some.inj this
      subst hy2
      obtain ⟨f, h1, h2⟩ := findFun_at hj
      rw [hn] at h2
      exact se_callG hL E (call_mk E h1 h2 hy hx) hg (E.gok.cls c y hy hx).1 (E.gok.mkc j f y c h1 h2 hy hx).kp hp
    | none =>
      rw [hc] at hk
      simp only [Bool.and_eq_true] at hk
      obtain ⟨hn, f, h1, h2, h3⟩ := bltS_ok (g := g) (X := X) hk.2.1 E.calm E.hu
      have e : (fun vs h1 => callN g C sc.md x vs h1) = fun vs h1 => blt x h1 vs := by
        funext vs h1
        simp only [callN, hf, hc, hk.1, if_true]
      rw [e]
      cases es with
      | nil => simp at hk
      | cons a es =>
        rcases h3 with ⟨i, rfl⟩ | ⟨T, rfl⟩
        · refine peI (pe_callB h2 (E.gl hg) (E.gok.free x hk.1) h1 (sa_args hL E hp) hn (odd_dbg (gl_of hg).1) (plain_star hp _) (plain_any (plain_tail hp) _ _)) fun σ H Q ⟨rho, sm, h, rs, rl, rt⟩ => ?_
          refine ⟨rho, sm, h, rs, rl, RT.imp (RT.bind rt) fun vs H1 ⟨r1, h1, a, e1, rl1, ra, rt1⟩ => ?_⟩
          exact ⟨r1, h1, a, W, σ, rl1, ra, rt1⟩
        · refine peI (pe_callTy h2 (E.gl hg) (E.gok.free x hk.1) h1 (sa_args hL E hp) hn (odd_dbg (gl_of hg).1) (plain_star hp _) (plain_any (plain_tail hp) _ _)) fun σ H Q ⟨rho, sm, h, rs, rl, rt⟩ => ?_
          refine ⟨rho, sm, h, rs, rl, RT.imp (RT.bind rt) fun vs H1 ⟨r1, h1, a, e1, rl1, ra, rt1⟩ => ?_⟩
          exact ⟨r1, h1, a, W, σ, rl1, ra, rt1⟩
/-! ### isinstance -/
theorem se_ty {e : Expr} {T : String} (E : EC g C lv sc W X) (h : tyNm g sc e = some T) : PE X e (tC (.ty T)) ∧ (∀ env es, starEach (e :: es) env = (false, eval e env) :: starEach es env) ∧ (T = "str" ∨ T = "int" ∨ T = "bool" ∨ T = "list" ∨ T = "tuple" ∨ T = "dict") := by
  unfold tyNm at h
  split at h
  · rename_i x p
    split at h
    · rename_i hx
      simp only [Bool.and_eq_true] at hx
      obtain ⟨h1, h2, h3⟩ := tyS_ok h
      exact ⟨pe_bltn (E.gl hx.1) (E.gok.free x hx.2) h1 rfl h2 (odd_dbg (gl_of hx.1).1), fun _ _ => rfl, h3⟩
    · cases h
  · cases h
theorem kit1 {K : PySem.W.Frag} {t T : String} (h : t ∈ ["NoneType", "bool", "int", "str", "tuple", "list", "dict"]) (hT : T = "str" ∨ T = "int" ∨ T = "bool" ∨ T = "list" ∨ T = "tuple" ∨ T = "dict") : PySem.W.kitOne K (.type t) (.type T) = some (isinM t T) :=
  kit_ty (kit_in t h T (by rcases hT with h | h | h | h | h | h <;> subst h <;> decide))
theorem se_isi1 {a e : Expr} {T : String} {x : Str} {p pos : Pos} (hL : LvOk g C lv L) (E : EC g C lv sc W X) (hx : x = ("isinstance" : Str)) (hg : sc.gl x = true) (hb : g.bltn x = true) (hp : plainA [a, e] = true) (hT : tyNm g sc e = some T) :
    PE X (.Call (.Name x p) [a, e] [] pos) (tE X.K g.nm W fun sm h => (L.e sc a sm h).bind fun v h1 => match tyM h1 v with
            | some t => .ok (.bl (isinM t T)) h1
            | none => .err) := by
  subst hx
  obtain ⟨pt, st, hT2⟩ := se_ty E hT
  refine peI (pe_callB call_isi (E.gl hg) (E.gok.free _ hb) PyProof.Rows.boot_isinstance (pa_cons (hL.e X sc W a E) (pa_cons pt pa_nil (st _ _)) (plain_star hp _)) (by decide) (by decide) (plain_star hp _) (plain_any (plain_tail hp) _ _)) fun σ H Q ⟨rho, sm, h, rs, rl, rt⟩ => ?_
  refine ⟨rho, sm, h, rs, rl, RT.imp (RT.bind rt) fun v H1 ⟨r1, h1, b, e1, rl1, ra, rt1⟩ => ?_⟩
  show rIsi X.K [v, .ty T] H1 Q
  split at rt1
  · rename_i t ht
    obtain ⟨ty, hm⟩ := ty_ok rl1 ht ra
    exact ⟨v, .ty T, .type t, .type T, _, rfl, .ty T, ty, kit1 hm hT2, rt1 r1 H1 _ Ex.refl rl1 (by show RV _ _ _ _ _; unfold RV; rfl)⟩
  · exact rt1.elim
theorem se_isi2 {a e1 e2 : Expr} {T1 T2 : String} {x : Str} {k : Nat} {p pos p2 : Pos} (hL : LvOk g C lv L) (E : EC g C lv sc W X) (hx : x = ("isinstance" : Str)) (hg : sc.gl x = true) (hb : g.bltn x = true) (hp : plainA [a, .Tuple [e1, e2] k p2] = true) (hT1 : tyNm g sc e1 = some T1) (hT2 : tyNm g sc e2 = some T2) :
    PE X (.Call (.Name x p) [a, .Tuple [e1, e2] k p2] [] pos) (tE X.K g.nm W fun sm h => (L.e sc a sm h).bind fun v h1 => match tyM h1 v with
            | some t => .ok (.bl (isinM t T1 || isinM t T2)) h1
            | none => .err) := by
  subst hx
  obtain ⟨pt1, st1, m1⟩ := se_ty E hT1
  obtain ⟨pt2, st2, m2⟩ := se_ty E hT2
  refine peI (pe_callB call_isiT (E.gl hg) (E.gok.free _ hb) PyProof.Rows.boot_isinstance (pa_cons (hL.e X sc W a E) (pa_cons (pe_tup (pa_cons pt1 (pa_cons pt2 pa_nil (st2 _ _)) (st1 _ _))) pa_nil rfl) (plain_star hp _)) (by decide) (by decide) (plain_star hp _) (plain_any (plain_tail hp) _ _)) fun σ H Q ⟨rho, sm, h, rs, rl, rt⟩ => ?_
  refine ⟨rho, sm, h, rs, rl, RT.imp (RT.bind rt) fun v H1 ⟨r1, h1, b, e1, rl1, ra, rt1⟩ => ?_⟩
  refine ⟨by rw [sizeLine_eq]; simp, fun q hq => ?_⟩
  show rIsiT X.K [v, .ref q] (upd H1 q (.tup [.ty T1, .ty T2])) Q
  split at rt1
  · rename_i t ht
    have rl2 := rl1.aside (u := .tup [.ty T1, .ty T2]) hq
    have ra2 : RV X.K (upd H1 q (.tup [.ty T1, .ty T2])) r1 b v := RV.mono (Ex.fresh0 hq) _ _ ra
    obtain ⟨ty, hm⟩ := ty_ok rl2 ht ra2
    refine ⟨v, q, [.ty T1, .ty T2], .type t, [.type T1, .type T2], _, rfl, upd_same, .cons (.ty T1) (.cons (.ty T2) .nil), ty, ?_, rt1 r1 _ _ (Ex.fresh0 hq) rl2 (by show RV _ _ _ _ _; unfold RV; rfl)⟩
    refine kitAny_cons (kit1 hm m1) (fun hf => kitAny_cons (kit1 hm m2) (fun hf2 => ?_) fun ht2 => ?_) fun ht1 => ?_
    · rw [hf, hf2]; exact kitAny_nil
    · rw [hf, ht2]; rfl
    · rw [ht1]; rfl
  · exact rt1.elim
end
end Mn
end

section
set_option autoImplicit false
set_option linter.all false
set_option maxRecDepth 100000
set_option maxHeartbeats 1000000
/-! calls of methods -/
namespace Mn
open PySem PySem.Spec L2
section
variable {K : PySem.W.Frag} {nm : Nm} {W : WX} {σ : L2.St} {rho : List Addr} {H : Hp}
theorem RT.up {γ δ : Type} {R' : Hp → List Addr → γ → δ → Prop} {Q : δ → Hp → Prop} {r : Res γ} {rho' : List Addr} {H' : Hp} (h : RT K nm R' W σ Q rho H r) (e : Ex K rho H rho' H') : RT K nm R' W σ Q rho' H' r := by
  cases r with
  | ok c h2 => exact fun r2 H2 b2 x1 x2 x3 => h r2 H2 b2 (e.trans x1) x2 x3
  | ex e' h2 => exact fun r2 H2 C d x1 x2 x3 => h r2 H2 C d (e.trans x1) x2 x3
  | err => exact h
theorem RT.bindE {α β γ δ : Type} {R : Hp → List Addr → α → β → Prop} {R' : Hp → List Addr → γ → δ → Prop} {Q : δ → Hp → Prop} {r : Res α} {f : α → MH → Res γ} (h : RT K nm R' W σ Q rho H (r.bind f)) :
    RT K nm R W σ (fun b H1 => ∃ rho1 h1 a, r = .ok a h1 ∧ Ex K rho H rho1 H1 ∧ Rel K nm rho1 h1 H1 ∧ R H1 rho1 a b ∧ RT K nm R' W σ Q rho1 H1 (f a h1)) rho H r := by
  cases r with
  | ok a h1 =>
    intro rho' H' b e1 e2 e3
    exact ⟨rho', h1, a, rfl, e1, e2, e3, RT.up (show RT K nm R' W σ Q rho H (f a h1) from h) e1⟩
  | ex e h1 => exact h
  | err => exact h
end
section
variable {g : GS} {C : CallS} {lv : Nat} {sc : SC} {W : WX} {X : Cx} {L : Lv}
theorem few_ok {es : List Expr} (hp : plainA es = true) (pos : Pos) (env : Env) : ((backTo pos (starEach es env)).all (fun x => !x.1) && (backToKw pos (keywordEach [] env)).all (fun x => x.1.isSome)
      && decide (es.length + ([] : List Keyword).length + (if ([] : List Keyword).isEmpty then 0 else 1) < 30)) = true := by
  rw [plain_all hp]
  unfold plainA at hp
  simp only [Bool.and_eq_true, decide_eq_true_eq] at hp
  have h1 := hp.1
  show (true && true && decide (es.length + 0 + 0 < 30)) = true
  simp; omega
def plOf (o : Expr) (env : Env) : Sem Bool := do return (← importBound o env).getD true
theorem eval_meth {o : Expr} {m : Str} {apos pos : Pos} {es : List Expr} {env : Env} (ho : plainO o = true) (hp : plainA es = true) (hl : (apos.endLine == pos.line) = true) :
    eval (.Call (.Attribute o m apos) es [] pos) env = (do
      let ov ← eval o env
      standAt apos.atName
      let (f, first) ← holding [ov] (getMethod ov m (plOf o env))
      callWith pos f first (backTo pos (starEach es env)) (backToKw pos (keywordEach [] env))) := by
  rw [arm_eval_Call, plainO_base ho]
  have hform : methodCallForm (es.length + ([] : List Keyword).length) (backTo pos (starEach es env)) (backToKw pos (keywordEach [] env)) = true := few_ok hp pos env
  have hpos : methodCallPos true o env apos pos = pure pos := by unfold methodCallPos; simp [hl]
  unfold methodCall
  rw [hform, hpos]
  simp only [pure_bind]
  rfl
/-- a method of an instance -/
theorem pe_methG {Cc f : Addr} {r : L2.St → List V → Hp → VK → Prop} {o : Expr} {m : Str} {apos pos : Pos} {es : List Expr} {ta : TE} {t : TA} (he : PE X o ta) (ho : plainO o = true) (hl : (apos.endLine == pos.line) = true) (c : Cls X.K Cc) (hm : Meth X.K Cc m f) (hc : CallG X (.ref f) r) (hp : plainA es = true)
    (ha : PA X es t) (h0 : ∀ σ H Q, es = [] → t σ H Q → Q [] H) :
    PE X (.Call (.Attribute o m apos) es [] pos) (fun σ H Q => ta σ H fun x H1 => ∃ a dx fs, x = .ref a ∧ H1 a = some (.ins Cc dx fs) ∧ fs.lookup m = none ∧ t σ H1 fun vs H2 => r σ (x :: vs) H2 Q) := by
  refine ⟨fun pins s σ H Q I h => ?_⟩
  refine PySem.W.methodCall_KW (pl := plOf o X.env) (thn (he.run pins s σ H _ I h) fun u s1 ⟨x, H1, I1, rx, a, dx, fs, ex, ea, l, q⟩ => ?_) (eval_meth ho hp hl)
  subst ex
  obtain rfl : u = Value.ref a := rx
  refine getmeth_ok I1 ea c hm l ?_
  cases es with
  | nil => exact PySem.W.callWith_K0 (first := [.ref a]) I1.kIn hm.kp (hc pins s1 σ H1 [.ref a] [.ref a] Q I1 (.cons rfl .nil) (h0 _ _ _ rfl q))
  | cons e es =>
    exact PySem.W.callWith_K (first := [.ref a]) (h₀ := X.base) I.ok.mod.kin hm.kp (thn (ha.run pos pins s1 σ H1 _ I1 q) fun us s2 ⟨vs, H2, I2, r, q2⟩ => ⟨I2.kIn, hc pins s2 σ H2 (.ref a :: vs) (.ref a :: us) Q I2 (.cons rfl r) q2⟩) (plain_star hp _) (plain_any (plain_tail hp) _ _)
/-- where the object raises -/
theorem pe_mfail {o : Expr} {m : Str} {apos pos : Pos} {es : List Expr} {ta : TE} (he : PE X o ta) (ho : plainO o = true) (hl : (apos.endLine == pos.line) = true) (hp : plainA es = true) :
    PE X (.Call (.Attribute o m apos) es [] pos) (fun σ H Q => ta σ H fun x H1 => False) := by
  refine ⟨fun pins s σ H Q I h => ?_⟩
  exact PySem.W.methodCall_KW (pl := plOf o X.env) (thn (he.run pins s σ H _ I h) fun u s1 ⟨x, H1, I1, rx, q⟩ => q.elim) (eval_meth ho hp hl)
theorem few_all {es : List Expr} (hp : plainA es = true) : plainA es = true := hp
theorem se_ms {id : String} {o : Expr} {m : Str} {apos pos : Pos} {es : List Expr} (hL : LvOk g C lv L) (E : EC g C lv sc W X) (ho : plainO o = true) (hl : (apos.endLine == pos.line) = true) (hp : plainA es = true) (hn : es.isEmpty = false)
    (slot : Slot "str" m id) (hty : typeOf (.builtin id) = pure (.type "method_descriptor")) (hm : MtR X id (rMs X.K g.nm m)) {σ : L2.St} {H : Hp} {Q : VK} {rho : List Addr} {sm : MSt} {h h1 : MH} {s : List Nat} (rs : RS X.K H rho sm σ) (rl : Rel X.K g.nm rho h H)
    (hv : L.e sc o sm h = .ok (.str s) h1) (rt : RT X.K g.nm (relV' X.K) W σ Q rho H ((evA (L.e sc) es sm h1).bind fun vs h2 => mth m h2 (.str s) vs)) : ∃ t', PE X (.Call (.Attribute o m apos) es [] pos) t' ∧ t' σ H Q := by
  cases es with
  | nil => cases hn
  | cons e es =>
    refine ⟨_, pe_bm PySem.F.plainAttrs_str slot hty hm (hL.e X sc W o E) (sa_args hL E hp) (plainO_base ho m X.env) (few_ok hp _ _) hl (plain_star hp _) (plain_any (plain_tail hp) _ _), ?_⟩
    refine ⟨rho, sm, h, rs, rl, ?_⟩
    rw [hv]
    intro r1 H1 x e1 rl1 ra
    have hx : x = .str ⟨s.toArray⟩ := RV.str ra
    refine ⟨by rw [hx]; rfl, r1, sm, h1, rs.ex e1, rl1, ?_⟩
    refine RT.imp (RT.bind (rt.up e1)) fun vs H2 ⟨r2, h2, as, e2, rl2, ras, rt2⟩ => ?_
    exact ⟨r2, h2, s, as, W, σ, rl2, RV.mono e2 _ _ ra, ras, rt2⟩
theorem isLst_ok {h : MH} {a : Nat} (e : isLst h (.ref a) = true) : ∃ ys, h[a]? = some (.lst ys) := by
  simp only [isLst] at e
  split at e
  · rename_i ys hy; exact ⟨ys, hy⟩
  · cases e
theorem isDk_ok {h : MH} {a : Nat} (e : isDk h (.ref a) = true) : ∃ ys, h[a]? = some (.dK ys) := by
  simp only [isDk] at e
  split at e
  · rename_i ys hy; exact ⟨ys, hy⟩
  · cases e
theorem se_ml {id : String} {a : Nat} {ys : List MV} {o : Expr} {m : Str} {apos pos : Pos} {e : Expr} {es : List Expr} (hL : LvOk g C lv L) (E : EC g C lv sc W X) (ho : plainO o = true) (hl : (apos.endLine == pos.line) = true) (hp : plainA (e :: es) = true)
    (slot : Slot "list" m id) (hty : typeOf (.builtin id) = pure (.type "method_descriptor")) (hm : MtR X id (rMl X.K g.nm m)) {σ : L2.St} {H : Hp} {Q : VK} {rho : List Addr} {sm : MSt} {h h1 : MH} (rs : RS X.K H rho sm σ) (rl : Rel X.K g.nm rho h H)
    (hv : L.e sc o sm h = .ok (.ref a) h1) (ha : h1[a]? = some (.lst ys)) (rt : RT X.K g.nm (relV' X.K) W σ Q rho H ((evA (L.e sc) (e :: es) sm h1).bind fun vs h2 => if isLst h2 (.ref a) then mth m h2 (.ref a) vs else .err)) : ∃ t', PE X (.Call (.Attribute o m apos) (e :: es) [] pos) t' ∧ t' σ H Q := by
  refine ⟨_, pe_bm PySem.F.plainAttrs_list slot hty hm (hL.e X sc W o E) (sa_args hL E hp) (plainO_base ho m X.env) (few_ok hp _ _) hl (plain_star hp _) (plain_any (plain_tail hp) _ _), ?_⟩
  refine ⟨rho, sm, h, rs, rl, ?_⟩
  rw [hv]
  intro r1 H1 x e1 rl1 ra
  obtain ⟨p, vs, rfl, _, h3, _⟩ := rl1.lst ha ra
  refine ⟨.inl ⟨rfl, vs, SqL.of h3⟩, r1, sm, h1, rs.ex e1, rl1, ?_⟩
  refine RT.imp (RT.bind (rt.up e1)) fun vs H2 ⟨r2, h2, as, e2, rl2, ras, rt2⟩ => ?_
  split at rt2
  · rename_i hk
    obtain ⟨ys2, hk⟩ := isLst_ok hk
    exact ⟨r2, h2, a, ys2, as, W, σ, rl2, RV.mono e2 _ _ ra, hk, ras, rt2⟩
  · exact rt2.elim
theorem se_ml0 {id : String} {a : Nat} {ys : List MV} {o : Expr} {m : Str} {apos pos : Pos} (hL : LvOk g C lv L) (E : EC g C lv sc W X) (ho : plainO o = true) (hl : (apos.endLine == pos.line) = true)
    (slot : Slot "list" m id) (hty : typeOf (.builtin id) = pure (.type "method_descriptor")) (hm : MtR X id (rMl X.K g.nm m)) {σ : L2.St} {H : Hp} {Q : VK} {rho : List Addr} {sm : MSt} {h h1 : MH} (rs : RS X.K H rho sm σ) (rl : Rel X.K g.nm rho h H)
    (hv : L.e sc o sm h = .ok (.ref a) h1) (ha : h1[a]? = some (.lst ys)) (rt : RT X.K g.nm (relV' X.K) W σ Q rho H (mth m h1 (.ref a) [])) : ∃ t', PE X (.Call (.Attribute o m apos) [] [] pos) t' ∧ t' σ H Q := by
  refine ⟨_, pe_bm0 PySem.F.plainAttrs_list slot hty hm (hL.e X sc W o E) (plainO_base ho m X.env) hl, ?_⟩
  refine ⟨rho, sm, h, rs, rl, ?_⟩
  rw [hv]
  intro r1 H1 x e1 rl1 ra
  obtain ⟨p, vs, rfl, _, h3, _⟩ := rl1.lst ha ra
  exact ⟨.inl ⟨rfl, vs, SqL.of h3⟩, r1, h1, a, ys, [], W, σ, rl1, ra, ha, by unfold RVs; rfl, rt.up e1⟩
/-! ### dicts -/
theorem isd_of {K : PySem.W.Frag} {nm : Nm} {rho : List Addr} {h : MH} {H : Hp} {a : Nat} {kvs : List (MK × MV)} {x : V} (rl : Rel K nm rho h H) (ha : h[a]? = some (.dK kvs)) (ra : RV K H rho (.ref a) x) : ∃ p, x = .ref p ∧ IsD H p := by
  obtain ⟨p, l, rfl, _, h1, _⟩ := rl.dk ha ra
  exact ⟨p, rfl, .inl ⟨l, .inl h1⟩⟩
theorem trees1 {e : Expr} (hp : plainA [e] = true) (pos : Pos) (env : Env) : backTo pos (starEach [e] env) = [(false, eval e env)] := by
  rw [plain_star hp]; rfl
theorem trees2 {e f : Expr} (hp : plainA [e, f] = true) (pos : Pos) (env : Env) : backTo pos (starEach [e, f] env) = [(false, eval e env), (false, eval f env)] := by
  rw [plain_star hp, plain_star (plain_tail hp)]; rfl
theorem RT.setd {K : PySem.W.Frag} {nm : Nm} {rho : List Addr} {H : Hp} {W : WX} {σ : L2.St} {Q : VK} {h : MH} {i : Nat} {a : Addr} {ys zs : List (MK × MV)} {vs us : List (Key × V)} {y : MV} {v : V} (rt : RT K nm (relV' K) W σ Q rho H (.ok y (h.set i (.dK zs)))) (rl : Rel K nm rho h H)
    (hi : rho[i]? = some a) (ha : H a = some (.dK vs)) (r : RD K H rho MK.k zs us) (ry : RV K H rho y v) : Q v (upd H a (.dK us)) := by
  have hm : Mut (H a) := by rw [ha]; trivial
  exact rt rho _ v (Ex.write hm) (rl.put hi hm ⟨us, upd_same, r.mono (Ex.write hm)⟩) (RV.mono (Ex.write hm) _ _ ry)
theorem se_dpop {a : Nat} {kvs : List (MK × MV)} {o e : Expr} {m : Str} {apos pos : Pos} (hmm : m = ("pop" : Str)) (hL : LvOk g C lv L) (E : EC g C lv sc W X) (ho : plainO o = true) (hl : (apos.endLine == pos.line) = true) (hp : plainA [e] = true)
    {σ : L2.St} {H : Hp} {Q : VK} {rho : List Addr} {sm : MSt} {h h1 : MH} (rs : RS X.K H rho sm σ) (rl : Rel X.K g.nm rho h H)
    (hv : L.e sc o sm h = .ok (.ref a) h1) (ha : h1[a]? = some (.dK kvs)) (rt : RT X.K g.nm (relV' X.K) W σ Q rho H ((evA (L.e sc) [e] sm h1).bind fun vs h2 => if isDk h2 (.ref a) then mth m h2 (.ref a) vs else .err)) : ∃ t', PE X (.Call (.Attribute o m apos) [e] [] pos) t' ∧ t' σ H Q := by
  subst hmm
  refine ⟨_, pe_dpop1 (hL.e X sc W o E) (hL.e X sc W e E) ⟨plainO_base ho _ X.env, few_ok hp _ _, hl, trees1 hp _ _⟩, ?_⟩
  refine ⟨rho, sm, h, rs, rl, ?_⟩
  rw [hv]
  intro r1 H1 x e1 rl1 ra
  obtain ⟨p, rfl, hd⟩ := isd_of rl1 ha ra
  refine ⟨p, rfl, hd, r1, sm, h1, rs.ex e1, rl1, ?_⟩
  have rt1 : RT X.K g.nm (relV' X.K) W σ Q r1 H1 ((L.e sc e sm h1).bind fun x h2 => if isDk h2 (.ref a) then mth "pop" h2 (.ref a) [x] else .err) := by
    have := rt.up e1
    simp only [evA] at this
    cases hq : L.e sc e sm h1 with
    | ok y h2 => rw [hq] at this; exact this
    | ex y h2 => rw [hq] at this; exact this
    | err => rw [hq] at this; exact this
  refine RT.imp (RT.bindE rt1) fun y H2 ⟨r2, h2, b, hb, e2, rl2, rb, rt2⟩ => ?_
  split at rt2
  case isFalse => exact rt2.elim
  rename_i hk
  obtain ⟨kv2, h3⟩ := isDk_ok hk
  have ra2 : RV X.K H2 r2 (.ref a) (.ref p) := RV.mono e2 _ _ ra
  obtain ⟨p', l, hpp, hi, h4, h5⟩ := rl2.dk h3 ra2
  cases hpp
  simp only [mth, h3] at rt2
  rw [if_pos trivial] at rt2
  cases hq : k1 b with
  | none => rw [hq] at rt2; exact rt2.elim
  | some q =>
    rw [hq] at rt2
    dsimp only at rt2
    cases hg : dget kv2 q with
    | none => rw [hg] at rt2; exact rt2.elim
    | some z =>
      rw [hg] at rt2
      obtain ⟨w, h6, h7⟩ := (h5.get (fun a b => k_inj) q).1 z hg
      exact ⟨l, q.k, w, h4, k1_ok hq rb, h6, RT.setd (ys := kv2) rt2 rl2 hi h4 (h5.drop (fun a b => k_inj) q) h7⟩
theorem se_dget1 {a : Nat} {kvs : List (MK × MV)} {o e : Expr} {m : Str} {apos pos : Pos} (hmm : m = ("get" : Str)) (hL : LvOk g C lv L) (E : EC g C lv sc W X) (ho : plainO o = true) (hl : (apos.endLine == pos.line) = true) (hp : plainA [e] = true)
    {σ : L2.St} {H : Hp} {Q : VK} {rho : List Addr} {sm : MSt} {h h1 : MH} (rs : RS X.K H rho sm σ) (rl : Rel X.K g.nm rho h H)
    (hv : L.e sc o sm h = .ok (.ref a) h1) (ha : h1[a]? = some (.dK kvs)) (rt : RT X.K g.nm (relV' X.K) W σ Q rho H ((evA (L.e sc) [e] sm h1).bind fun vs h2 => if isDk h2 (.ref a) then mth m h2 (.ref a) vs else .err)) : ∃ t', PE X (.Call (.Attribute o m apos) [e] [] pos) t' ∧ t' σ H Q := by
  subst hmm
  refine ⟨_, pe_dget1 E.hu1 (hL.e X sc W o E) (hL.e X sc W e E) ⟨plainO_base ho _ X.env, few_ok hp _ _, hl, trees1 hp _ _⟩, ?_⟩
  refine ⟨rho, sm, h, rs, rl, ?_⟩
  rw [hv]
  intro r1 H1 x e1 rl1 ra
  obtain ⟨p, rfl, hd⟩ := isd_of rl1 ha ra
  refine ⟨p, rfl, hd, r1, sm, h1, rs.ex e1, rl1, ?_⟩
  have rt1 : RT X.K g.nm (relV' X.K) W σ Q r1 H1 ((L.e sc e sm h1).bind fun x h2 => if isDk h2 (.ref a) then mth "get" h2 (.ref a) [x] else .err) := by
    have := rt.up e1
    simp only [evA] at this
    cases hq : L.e sc e sm h1 with
    | ok y h2 => rw [hq] at this; exact this
    | ex y h2 => rw [hq] at this; exact this
    | err => rw [hq] at this; exact this
  refine RT.imp (RT.bindE rt1) fun y H2 ⟨r2, h2, b, hb, e2, rl2, rb, rt2⟩ => ?_
  have ra2 : RV X.K H2 r2 (.ref a) (.ref p) := RV.mono e2 _ _ ra
  split at rt2
  case isFalse => exact rt2.elim
  · rename_i hk
    obtain ⟨kv2, h3'⟩ := isDk_ok hk
    simp only [mth, h3'] at rt2
    rw [if_neg (by decide), if_pos trivial] at rt2
    obtain ⟨p', l, hpp, hi, h4, h5⟩ := rl2.dk h3' ra2
    cases hpp
    cases hq : k1 b with
    | none => rw [hq] at rt2; exact rt2.elim
    | some q =>
      rw [hq] at rt2
      refine ⟨valV l q.k, .inl ⟨l, q.k, .inl h4, k1_ok hq rb, rfl⟩, rt2 r2 H2 _ Ex.refl rl2 ?_⟩
      have hg := h5.get (fun a b => k_inj) q
      cases hz : dget kv2 q with
      | none =>
        rw [hg.2 hz]
        show RV _ _ _ _ _
        unfold RV; rfl
      | some z =>
        obtain ⟨w, h6, h7⟩ := hg.1 z hz
        rw [h6]
        exact h7
theorem se_dget2 {a : Nat} {kvs : List (MK × MV)} {o e f : Expr} {m : Str} {apos pos : Pos} (hmm : m = ("get" : Str)) (hL : LvOk g C lv L) (E : EC g C lv sc W X) (ho : plainO o = true) (hl : (apos.endLine == pos.line) = true) (hp : plainA [e, f] = true)
    {σ : L2.St} {H : Hp} {Q : VK} {rho : List Addr} {sm : MSt} {h h1 : MH} (rs : RS X.K H rho sm σ) (rl : Rel X.K g.nm rho h H)
    (hv : L.e sc o sm h = .ok (.ref a) h1) (ha : h1[a]? = some (.dK kvs)) (rt : RT X.K g.nm (relV' X.K) W σ Q rho H ((evA (L.e sc) [e, f] sm h1).bind fun vs h2 => if isDk h2 (.ref a) then mth m h2 (.ref a) vs else .err)) : ∃ t', PE X (.Call (.Attribute o m apos) [e, f] [] pos) t' ∧ t' σ H Q := by
  subst hmm
  refine ⟨_, pe_dget2 E.hu1 (hL.e X sc W o E) (hL.e X sc W e E) (hL.e X sc W f E) ⟨plainO_base ho _ X.env, few_ok hp _ _, hl, trees2 hp _ _⟩, ?_⟩
  refine ⟨rho, sm, h, rs, rl, ?_⟩
  rw [hv]
  intro r1 H1 x e1 rl1 ra
  obtain ⟨p, rfl, hd⟩ := isd_of rl1 ha ra
  refine ⟨p, rfl, hd, r1, sm, h1, rs.ex e1, rl1, ?_⟩
  have rt1 : RT X.K g.nm (relV' X.K) W σ Q r1 H1 ((L.e sc e sm h1).bind fun x h2 => (L.e sc f sm h2).bind fun y h3 => if isDk h3 (.ref a) then mth "get" h3 (.ref a) [x, y] else .err) := by
    have := rt.up e1
    simp only [evA] at this
    cases hq : L.e sc e sm h1 with
    | ok y h2 =>
      rw [hq] at this
      show RT _ _ _ _ _ _ _ _ ((L.e sc f sm h2).bind _)
      cases hq2 : L.e sc f sm h2 with
      | ok y h2 => simp only [Res.bind, hq2] at this; exact this
      | ex y h2 => simp only [Res.bind, hq2] at this; exact this
      | err => simp only [Res.bind, hq2] at this; exact this
    | ex y h2 => rw [hq] at this; exact this
    | err => rw [hq] at this; exact this
  refine RT.imp (RT.bind rt1) fun y H2 ⟨r2, h2, b, e2, rl2, rb, rt2⟩ => ?_
  refine ⟨r2, sm, h2, (rs.ex e1).ex e2, rl2, RT.imp (RT.bind rt2) fun y2 H3 ⟨r3, h3, b2, e3, rl3, rb2, rt3⟩ => ?_⟩
  have ra2 : RV X.K H3 r3 (.ref a) (.ref p) := RV.mono (e2.trans e3) _ _ ra
  have rb' : RV X.K H3 r3 b y := RV.mono e3 _ _ rb
  split at rt3
  case isFalse => exact rt3.elim
  · rename_i hk
    obtain ⟨kv2, h3'⟩ := isDk_ok hk
    simp only [mth, h3'] at rt3
    rw [if_neg (by decide), if_pos trivial] at rt3
    obtain ⟨p', l, hpp, hi, h4, h5⟩ := rl3.dk h3' ra2
    cases hpp
    cases hq : k1 b with
    | none => rw [hq] at rt3; exact rt3.elim
    | some q =>
      rw [hq] at rt3
      refine ⟨valV l q.k, .inl ⟨l, q.k, .inl h4, k1_ok hq rb', rfl⟩, rt3 r3 H3 _ Ex.refl rl3 ?_⟩
      have hg := h5.get (fun a b => k_inj) q
      cases hz : dget kv2 q with
      | none =>
        rw [hg.2 hz]
        exact rb2
      | some z =>
        obtain ⟨w, h6, h7⟩ := hg.1 z hz
        rw [h6]
        exact h7
end
end Mn
end

section
set_option autoImplicit false
set_option linter.all false
set_option maxRecDepth 100000
set_option maxHeartbeats 1000000
/-! what is walked, targets, list comprehensions -/
namespace Mn
open PySem PySem.Spec L2
/-! ### method calls together -/
section
variable {g : GS} {C : CallS} {lv : Nat} {sc : SC} {W : WX} {X : Cx} {L : Lv}
theorem se_method {o : Expr} {m : Str} {apos cpos : Pos} {es : List Expr} (hL : LvOk g C lv L) (E : EC g C lv sc W X) : PE X (.Call (.Attribute o m apos) es [] cpos) (tE X.K g.nm W (stepE g C L sc (.Call (.Attribute o m apos) es [] cpos))) := by
  cases hc : (apos.endLine == cpos.line && plainO o && plainA es) with
  | false => exact peO fun σ H Q ⟨rho, sm, h, rs, rl, rt⟩ => by simp only [stepE, hc] at rt; exact rt.elim
  | true =>
    refine peO fun σ H Q ⟨rho, sm, h, rs, rl, rt⟩ => ?_
    simp only [stepE, hc, if_true] at rt
    simp only [Bool.and_eq_true] at hc
    obtain ⟨⟨hl, ho⟩, hp⟩ := hc
    cases hv : L.e sc o sm h with
    | err => rw [hv] at rt; exact rt.elim
    | ex e h1 =>
      rw [hv] at rt
      exact ⟨_, pe_mfail (hL.e X sc W o E) ho hl hp, rho, sm, h, rs, rl, by rw [hv]; exact rt⟩
    | ok x h1 =>
      rw [hv] at rt
      simp only [Res.bind] at rt
      cases x with
      | str s =>
        simp only [] at rt
        split at rt
        · rename_i hk
          simp only [okMs, Bool.and_eq_true, Bool.or_eq_true, decide_eq_true_eq] at hk
          have hn : es.isEmpty = false := by simpa using hk.2
          rcases hk.1 with hm | hm | hm | hm <;> subst hm
          · exact se_ms hL E ho hl hp hn PySem.F.slot_str_split PySem.F.type_str_split mm_split rs rl hv rt
          · exact se_ms hL E ho hl hp hn PySem.F.slot_str_join PySem.F.type_str_join mm_join rs rl hv rt
          · exact se_ms hL E ho hl hp hn PySem.F.slot_str_startswith PySem.F.type_str_startswith mm_startswith rs rl hv rt
          · exact se_ms hL E ho hl hp hn PySem.F.slot_str_find PySem.F.type_str_find mm_find rs rl hv rt
        · exact rt.elim
      | ref a =>
        simp only [] at rt
        split at rt
        · rename_i c fs hi
          split at rt
          · rename_i i hm
            split at rt
            · rename_i hc
              simp only [Bool.and_eq_true, Option.isNone_iff_eq_none] at hc
              obtain ⟨y, hy, hn, hx⟩ := GS.own_ok hc.2
              obtain ⟨f, h2, h3⟩ := findFun_at hm
              rw [hn] at h3
              refine ⟨_, pe_methG (hL.e X sc W o E) ho hl (E.gok.cls c y hy hx).2.1 (E.gok.meth i f y m h2 h3) (call_i E h2) hp (sa_args hL E hp) ?_, ?_⟩
              · intro σ H Q he ⟨rho, sm, h, rs, rl, rt⟩
                subst he
                exact rt rho H [] Ex.refl rl (by show RVs _ _ _ _ _; unfold RVs; rfl)
              · refine ⟨rho, sm, h, rs, rl, ?_⟩
                rw [hv]
                intro r1 H1 x e1 rl1 ra
                obtain ⟨p, dx, l, rfl, _, h4, h5⟩ := rl1.ins' hi ra
                rw [hn] at h4
                refine ⟨p, dx, l, rfl, h4, ?_, r1, sm, h1, rs.ex e1, rl1, RT.imp (RT.bind (rt.up e1)) fun vs H2 ⟨r2, h2, as, e2, rl2, ras, rt2⟩ => ?_⟩
                · cases hk : g.attr? m with
                  | some k =>
                    have hf := h5.getf E.gok.attrs hk
                    rw [hk] at hc
                    rw [show fget fs k = none from hc.1] at hf
                    exact hf
                  | none =>
                    have : ∀ {l : List (Nat × MV)} {t : List (Str × V)}, RF X.K g.nm H1 r1 l t → t.lookup m = none := by
                      intro l
                      induction l with
                      | nil => intro t h; unfold RF at h; subst h; rfl
                      | cons q r ih =>
                        obtain ⟨j, z⟩ := q
                        intro t h
                        unfold RF at h
                        obtain ⟨v, t', rfl, hj, _, hr⟩ := h
                        rw [List.lookup_cons]
                        have hne : (m == g.nm.attr j) = false := by
                          rw [beq_eq_false_iff_ne]
                          intro z
                          have e1 : g.nm.attrs[j]? = some (g.nm.attr j) := by
                            unfold Nm.attr
                            rw [List.getD_eq_getElem?_getD, List.getElem?_eq_getElem hj]; rfl
                          rw [← z] at e1
                          have hm : m ∈ g.nm.attrs := List.mem_of_getElem? e1
                          have : ∀ {l : List Str}, m ∈ l → idx m l ≠ none := by
                            intro l
                            induction l with
                            | nil => intro h; cases h
                            | cons y r ih =>
                              intro h
                              unfold idx
                              split
                              · simp
                              · rename_i hne
                                rcases List.mem_cons.mp h with h | h
                                · exact absurd h hne
                                · cases hq : idx m r with
                                  | none => exact absurd hq (ih h)
                                  | some j => simp
                          exact this hm hk
                        rw [hne]
                        exact ih hr
                    exact this h5
                · exact ⟨r2, h2, .ref a :: as, rl2, RVs.mk (RV.mono e2 _ _ ra) ras, rt2⟩
            · exact rt.elim
          · exact rt.elim
        · rename_i ys hi
          split at rt
          · rename_i hk
            simp only [okMl, Bool.and_eq_true, Bool.or_eq_true, decide_eq_true_eq] at hk
            rcases hk with hk | hk | hk
            · obtain ⟨hm, hn⟩ := hk
              subst hm
              cases es with
              | nil => simp at hn
              | cons e es => exact se_ml hL E ho hl hp PySem.F.slot_list_append PySem.F.type_list_append mm_append rs rl hv hi rt
            · obtain ⟨hm, hn⟩ := hk
              subst hm
              cases es with
              | nil => simp at hn
              | cons e es => exact se_ml hL E ho hl hp PySem.F.slot_list_extend PySem.F.type_list_extend mm_extend rs rl hv hi rt
            · subst hk
              cases es with
              | nil =>
                simp only [evA, Res.bind] at rt
                split at rt
                · exact se_ml0 hL E ho hl PySem.F.slot_list_pop PySem.F.type_list_pop mm_pop rs rl hv hi rt
                · exact rt.elim
              | cons e es => exact se_ml hL E ho hl hp PySem.F.slot_list_pop PySem.F.type_list_pop mm_pop rs rl hv hi rt
          · exact rt.elim
        · rename_i ys hi
          split at rt
          · rename_i hk
            simp only [okMd, Bool.and_eq_true, Bool.or_eq_true, decide_eq_true_eq, beq_iff_eq] at hk
            rcases hk with ⟨hm, hn⟩ | ⟨hm, hn | hn⟩
            · obtain ⟨e, rfl⟩ := List.length_eq_one_iff.mp hn
              exact se_dpop hm hL E ho hl hp rs rl hv hi rt
            · obtain ⟨e, rfl⟩ := List.length_eq_one_iff.mp hn
              exact se_dget1 hm hL E ho hl hp rs rl hv hi rt
            · obtain ⟨e, f, rfl⟩ : ∃ e f, es = [e, f] := by
                match es, hn with
                | [e, f], _ => exact ⟨e, f, rfl⟩
              exact se_dget2 hm hL E ho hl hp rs rl hv hi rt
          · exact rt.elim
        · exact rt.elim
      | _ => exact rt.elim
end
/-! ### what is walked -/
def ItRel (K : PySem.W.Frag) (nm : Nm) (H : Hp) (rho : List Addr) (it : It) (J : L2.It) : Prop := ∀ rho' H' h', Ex K rho H rho' H' → Rel K nm rho' h' H' → ∀ k,
  (it.at k h' = some none → J.stop k H') ∧ ∀ x, it.at k h' = some (some x) → J.go k H' ∧ ∀ v H'', J.yld k H' v H'' → H'' = H' ∧ RV K H' rho' x v
def tI (K : PySem.W.Frag) (nm : Nm) (W : WX) (m : MSt → MH → Res It) : TI := fun σ H R => ∃ rho sm h, RS K H rho sm σ ∧ Rel K nm rho h H ∧ RT K nm (ItRel K nm) W σ R rho H (m sm h)
theorem piO {X : Cx} {tg e : Expr} {t : TI} (h : ∀ σ H R, t σ H R → ∃ t', PI X tg e t' ∧ t' σ H R) : PI X tg e t := ⟨fun pins s σ H R I q => by
  obtain ⟨t', p, q'⟩ := h σ H R q
  exact p.run pins s σ H R I q'⟩
section
variable {K : PySem.W.Frag} {nm : Nm} {H : Hp} {rho : List Addr}
theorem it_vals {xs : List MV} {vs : List V} (r : RVs K H rho xs vs) (k : Nat) : (xs[k]? = none → vs.length ≤ k) ∧ ∀ x, xs[k]? = some x → ∃ v, vs[k]? = some v ∧ RV K H rho x v :=
  ⟨fun h => by rw [← r.length]; simpa using h, fun x h => r.get h⟩
theorem it_list {xs : List MV} {vs : List V} {p : Addr} (r : RVs K H rho xs vs) (hs : ∀ rho' H', Ex K rho H rho' H' → SqL K H' p vs) : ItRel K nm H rho (.seq xs) (Itl K p) := by
  intro rho' H' h' e rl k
  obtain ⟨h1, h2⟩ := it_vals (r.mono e) k
  have hq := hs rho' H' e
  refine ⟨fun h => ⟨vs, hq, h1 (by simpa [It.at] using h)⟩, fun x h => ?_⟩
  obtain ⟨v, h3, h4⟩ := h2 x (by simpa [It.at] using h)
  refine ⟨⟨vs, v, hq, h3⟩, fun u H'' ⟨y1, y2⟩ => ⟨y1, ?_⟩⟩
  have := y2 vs hq
  rw [h3] at this
  cases this
  exact h4
theorem it_tup {xs : List MV} {vs : List V} {p : Addr} (r : RVs K H rho xs vs) (hs : ∀ rho' H', Ex K rho H rho' H' → SqT K H' p vs) : ItRel K nm H rho (.seq xs) (Itt K p) := by
  intro rho' H' h' e rl k
  obtain ⟨h1, h2⟩ := it_vals (r.mono e) k
  have hq := hs rho' H' e
  refine ⟨fun h => ⟨vs, hq, h1 (by simpa [It.at] using h)⟩, fun x h => ?_⟩
  obtain ⟨v, h3, h4⟩ := h2 x (by simpa [It.at] using h)
  refine ⟨⟨vs, v, hq, h3⟩, fun u H'' ⟨y1, y2⟩ => ⟨y1, ?_⟩⟩
  have := y2 vs hq
  rw [h3] at this
  cases this
  exact h4
theorem it_ref {a : Nat} {v : V} (r : RV K H rho (.ref a) v) : ∃ p, v = .ref p ∧ ItRel K nm H rho (.lst a) (Itl K p) := by
  obtain ⟨p, h1, rfl⟩ := r.ref
  refine ⟨p, rfl, fun rho' H' h' e rl k => ?_⟩
  have r' : RV K H' rho' (.ref a) (.ref p) := RV.mono e _ _ r
  have key : ∀ o, (It.lst a).at k h' = some o → ∃ xs vs, H' p = some (.lst vs) ∧ RVs K H' rho' xs vs ∧ o = xs[k]? := by
    intro o ho
    simp only [It.at] at ho
    split at ho
    · rename_i xs hi
      cases ho
      obtain ⟨q, vs, e1, _, h2, h3⟩ := rl.lst hi r'
      cases e1
      exact ⟨xs, vs, h2, h3, rfl⟩
    · cases ho
  refine ⟨fun h => ?_, fun x h => ?_⟩
  · obtain ⟨xs, vs, h2, h3, h4⟩ := key _ h
    exact ⟨vs, SqL.of h2, (it_vals h3 k).1 h4.symm⟩
  · obtain ⟨xs, vs, h2, h3, h4⟩ := key _ h
    obtain ⟨v, h5, h6⟩ := (it_vals h3 k).2 x h4.symm
    refine ⟨⟨vs, v, SqL.of h2, h5⟩, fun u H'' ⟨y1, y2⟩ => ⟨y1, ?_⟩⟩
    have := y2 vs (SqL.of h2)
    rw [h5] at this
    cases this
    exact h6
theorem it_str {s : List Nat} : ItRel K nm H rho (.seq (s.map fun c => .str [c])) (Its ⟨s.toArray⟩) := by
  intro rho' H' h' e rl k
  refine ⟨fun h => ?_, fun x h => ?_⟩
  · simp [It.at] at h
    show s.toArray.size ≤ k
    simpa using h
  · simp [It.at] at h
    obtain ⟨c, h1, h2⟩ := h
    refine ⟨?_, fun v H'' ⟨y1, c', y2, y3⟩ => ⟨y1, ?_⟩⟩
    · show k < s.toArray.size
      have := (List.getElem?_eq_some_iff.mp h1).1
      simpa using this
    · have : c' = c := by
        have : s[k]? = some c' := by simpa using y2
        rw [h1] at this
        exact (Option.some.inj this).symm
      subst this
      subst h2 y3
      unfold RV
      rfl
theorem rangeL_get (lo : Int) : ∀ (n k : Nat), (rangeL lo n)[k]? = if k < n then some (.int (lo + k)) else none := by
  intro n
  induction n generalizing lo with
  | zero => intro k; simp [rangeL]
  | succ n ih =>
    intro k
    cases k with
    | zero => simp [rangeL]
    | succ k =>
      simp only [rangeL, List.getElem?_cons_succ, ih]
      by_cases h : k < n
      · rw [if_pos h, if_pos (by omega)]
        congr 2
        push_cast
        omega
      · rw [if_neg h, if_neg (by omega)]
theorem it_rng {lo : Int} {n : Nat} : ItRel K nm H rho (.seq (rangeL lo n)) (Itr lo n) := by
  intro rho' H' h' e rl k
  simp only [It.at, rangeL_get]
  refine ⟨fun h => ?_, fun x h => ?_⟩
  · split at h
    · cases h
    · rename_i hk
      show n ≤ k
      omega
  · split at h
    · rename_i hk
      cases h
      exact ⟨hk, fun v H'' ⟨y1, y2⟩ => ⟨y1, by rw [y2]; unfold RV; rfl⟩⟩
    · cases h
end
section
variable {g : GS} {C : CallS} {lv : Nat} {sc : SC} {W : WX} {X : Cx} {L : Lv}
theorem si_val {tg e : Expr} (hL : LvOk g C lv L) (E : EC g C lv sc W X) : PI X tg e (tI X.K g.nm W fun sm h => (L.e sc e sm h).bind fun v h1 => opt (itOf h1 v) h1) := by
  refine piO fun σ H R ⟨rho, sm, h, rs, rl, rt⟩ => ?_
  dsimp only at rt
  cases hv : L.e sc e sm h with
  | err => rw [hv] at rt; exact rt.elim
  | ex x h1 =>
    rw [hv] at rt
    exact ⟨_, pi_list (hL.e X sc W e E), rho, sm, h, rs, rl, by rw [hv]; exact rt⟩
  | ok v h1 =>
    rw [hv] at rt
    have rt' : RT X.K g.nm (ItRel X.K g.nm) W σ R rho H (opt (itOf h1 v) h1) := rt
    obtain ⟨it, hi, rt2⟩ := rt_opt rt'
    cases v with
    | tup xs =>
      cases hi
      refine ⟨_, pi_tup (hL.e X sc W e E), rho, sm, h, rs, rl, ?_⟩
      rw [hv]
      intro r1 H1 x e1 rl1 ra
      obtain ⟨p, vs, rfl, h3, h4⟩ := RV.tup ra
      exact ⟨p, rfl, ⟨vs, SqT.of h3⟩, rt2 r1 H1 _ e1 rl1 (it_tup h4 fun r H' e => SqT.of (e.tup _ _ h3))⟩
    | kt xs =>
      cases hi
      refine ⟨_, pi_tup (hL.e X sc W e E), rho, sm, h, rs, rl, ?_⟩
      rw [hv]
      intro r1 H1 x e1 rl1 ra
      obtain ⟨p, vs, rfl, h3, h4⟩ := RV.kt ra
      exact ⟨p, rfl, ⟨vs, h3.sq⟩, rt2 r1 H1 _ e1 rl1 (it_tup h4 fun r H' e => h3.sq)⟩
    | sq xs =>
      cases hi
      refine ⟨_, pi_list (hL.e X sc W e E), rho, sm, h, rs, rl, ?_⟩
      rw [hv]
      intro r1 H1 x e1 rl1 ra
      obtain ⟨p, vs, rfl, h3, h4⟩ := RV.sq ra
      exact ⟨p, rfl, ⟨vs, h3.sq⟩, rt2 r1 H1 _ e1 rl1 (it_list h4 fun r H' e => (e.frz _ _ h3).sq)⟩
    | str s =>
      simp only [itOf] at hi
      split at hi
      · cases hi
        refine ⟨_, pi_str (hL.e X sc W e E), rho, sm, h, rs, rl, ?_⟩
        rw [hv]
        intro r1 H1 x e1 rl1 ra
        exact ⟨_, RV.str ra, rt2 r1 H1 _ e1 rl1 it_str⟩
      · cases hi
    | ref a =>
      simp only [itOf] at hi
      split at hi
      · rename_i xs ha
        cases hi
        refine ⟨_, pi_list (hL.e X sc W e E), rho, sm, h, rs, rl, ?_⟩
        rw [hv]
        intro r1 H1 x e1 rl1 ra
        obtain ⟨q, vs, hq, _, h3, _⟩ := rl1.lst ha ra
        obtain ⟨p, rfl, hr⟩ := it_ref (nm := g.nm) ra
        cases hq
        exact ⟨_, rfl, ⟨vs, SqL.of h3⟩, rt2 r1 H1 _ e1 rl1 hr⟩
      · cases hi
    | _ => cases hi
theorem si_it {tg e : Expr} (hL : LvOk g C lv L) (E : EC g C lv sc W X) : PI X tg e (tI X.K g.nm W (evIt g sc (L.e sc) e)) := by
  unfold evIt
  split
  · rename_i x p es cp
    split
    · rename_i hx
      obtain ⟨rfl, hg, hb, hp⟩ := hx
      split
      · rename_i a
        refine ⟨fun pins s σ H R I ⟨rho, sm, h, rs, rl, rt⟩ => (pi_range1 (E.gl hg) (E.gok.free _ hb) (sa_args hL E hp) (plain_star hp _)).run pins s σ H R I ?_⟩
        dsimp only at rt
        refine ⟨rho, sm, h, rs, rl, ?_⟩
        have rt1 : RT X.K g.nm (ItRel X.K g.nm) W σ R rho H ((evA (L.e sc) [a] sm h).bind fun vs h1 => match vs with
          | [.int n] => opt (rangeM 0 n) h1
          | _ => .err) := by
          simp only [evA]
          cases hq : L.e sc a sm h with
          | ok y h2 => rw [hq] at rt; cases y <;> exact rt
          | ex y h2 => rw [hq] at rt; exact rt
          | err => rw [hq] at rt; exact rt
        refine RT.imp (RT.bind rt1) fun vs H1 ⟨r1, h1, as, e1, rl1, ra, rt2⟩ => ?_
        split at rt2
        · rename_i n
          obtain ⟨it, hi, rt3⟩ := rt_opt rt2
          unfold rangeM at hi
          split at hi
          · rename_i hr
            cases hi
            obtain ⟨v, rfl, h3⟩ := one ra
            refine ⟨n, by rw [h3.int], hr.2.2.1, hr.2.2.2, rt3 r1 H1 _ Ex.refl rl1 ?_⟩
            have : (n - 0).toNat = n.toNat := by simp
            rw [this]
            exact it_rng
          · cases hi
        · exact rt2.elim
      · rename_i a b
        refine ⟨fun pins s σ H R I ⟨rho, sm, h, rs, rl, rt⟩ => (pi_range2 (E.gl hg) (E.gok.free _ hb) (sa_args hL E hp) (by rw [plain_star hp, plain_star (plain_tail hp)]; rfl) (plain_star (plain_tail hp) _)).run pins s σ H R I ?_⟩
        dsimp only at rt
        refine ⟨rho, sm, h, rs, rl, ?_⟩
        have rt1 : RT X.K g.nm (ItRel X.K g.nm) W σ R rho H ((evA (L.e sc) [a, b] sm h).bind fun vs h1 => match vs with
          | [.int i, .int j] => opt (rangeM i j) h1
          | _ => .err) := by
          simp only [evA]
          cases hq : L.e sc a sm h with
          | ok y h2 =>
            rw [hq] at rt
            simp only [Res.bind] at rt ⊢
            cases hq2 : L.e sc b sm h2 with
            | ok z h3 => rw [hq2] at rt; cases y <;> cases z <;> exact rt
            | ex y h2 => rw [hq2] at rt; exact rt
            | err => rw [hq2] at rt; exact rt
          | ex y h2 => rw [hq] at rt; exact rt
          | err => rw [hq] at rt; exact rt
        refine RT.imp (RT.bind rt1) fun vs H1 ⟨r1, h1, as, e1, rl1, ra, rt2⟩ => ?_
        split at rt2
        · rename_i i j
          obtain ⟨it, hi, rt3⟩ := rt_opt rt2
          unfold rangeM at hi
          split at hi
          · rename_i hr
            cases hi
            obtain ⟨v, u, rfl, h3, h4⟩ := two ra
            exact ⟨i, j, by rw [h3.int, h4.int], hr, rt3 r1 H1 _ Ex.refl rl1 it_rng⟩
          · cases hi
        · exact rt2.elim
      · exact ⟨fun pins s σ H R I ⟨rho, sm, h, rs, rl, rt⟩ => rt.elim⟩
    · exact si_val hL E
  · exact si_val hL E
end
end Mn
end

section
set_option autoImplicit false
set_option linter.all false
set_option maxRecDepth 100000
set_option maxHeartbeats 1000000
/-! targets, list comprehensions -/
namespace Mn
open PySem PySem.Spec L2
theorem wipe_set {σ : L2.St} {i : Nat} {x : Option V} : ∀ {vs : List Nat}, wipe (σ.set i x) vs = if i ∈ vs then wipe σ vs else (wipe σ vs).set i x
  | [] => by simp [wipe]
  | v :: vs => by
    unfold wipe
    rw [wipe_set (vs := vs)]
    by_cases h1 : i ∈ vs
    · rw [if_pos h1, if_pos (List.mem_cons_of_mem _ h1)]
    · rw [if_neg h1]
      by_cases h2 : i = v
      · subst h2
        rw [if_pos List.mem_cons_self, List.set_set]
      · rw [if_neg (by simp [h1, h2]), List.set_comm _ _ h2]
theorem wipe_wipe {σ : L2.St} : ∀ {vs : List Nat}, wipe (wipe σ vs) vs = wipe σ vs
  | [] => rfl
  | v :: vs => by
    show (wipe ((wipe σ vs).set v none) vs).set v none = (wipe σ vs).set v none
    rw [wipe_set, wipe_wipe]
    split
    · rfl
    · rw [List.set_set]
theorem RS.wipe {K : PySem.W.Frag} {H : Hp} {rho : List Addr} {sm : MSt} {σ : L2.St} (h : RS K H rho sm σ) : ∀ vs : List Nat, RS K H rho (wipeM sm vs) (L2.wipe σ vs)
  | [] => h
  | v :: vs => (RS.wipe h vs).wipe1
/-! ### targets -/
/-- the slots that a target sets are among vs -/
def tG (K : PySem.W.Frag) (sc : SC) (tg : Expr) : TG := fun v σ H Q => ∃ rho sm x sm2, RS K H rho sm σ ∧ RV K H rho x v ∧ asg sc tg x sm = some sm2 ∧
  ∀ σ2, RS K H rho sm2 σ2 → (∀ vs : List Nat, (∀ i ∈ tgS sc tg, i ∈ vs) → wipe σ2 vs = wipe σ vs) → Q σ2 H
section
variable {g : GS} {C : CallS} {lv : Nat} {sc : SC} {W : WX} {X : Cx} {L : Lv}
theorem slotA_of {x : Str} {i : Nat} (h : sc.slotA x = some i) : odd x = false ∧ sc.N[i]? = some x ∧ (sc.scope.names.lookup x = some .local ∨ (sc.scope.names.lookup x = some .cell ∧ sc.lf = true)) := by
  unfold SC.slotA at h
  split at h
  · cases h
  · rename_i ho
    refine ⟨by simpa using ho, ?_⟩
    split at h
    · rename_i e; exact ⟨idx_at h, .inl e⟩
    · rename_i e
      split at h
      · rename_i hl; exact ⟨idx_at h, .inr ⟨e, hl⟩⟩
      · cases h
    · cases h
theorem EC.loc (c : EC g C lv sc W X) {x : Str} {i : Nat} (h : sc.slotA x = some i) : Loc X.env.scope x ∧ (X.fn x = true ∨ X.env.scope.names.lookup x = some .local) := by
  rw [show Loc X.env.scope x = Loc sc.scope x by rw [c.scope], c.scope]
  rcases (slotA_of h).2.2 with h1 | ⟨h1, h2⟩
  · exact ⟨.inl h1, .inr h1⟩
  · exact ⟨.inr h1, .inl (c.fn h2 x)⟩
theorem sg_name {x : Str} {p : Pos} (E : EC g C lv sc W X) : PG X (.Name x p) (tG X.K sc (.Name x p)) := by
  refine ⟨fun pins s σ H v u Q I r ⟨rho, sm, y, sm2, rs, rv, ha, q⟩ => ?_⟩
  simp only [asg] at ha
  split at ha
  · rename_i i hi
    cases ha
    obtain ⟨l1, l2⟩ := E.loc hi
    refine (pg_name E.xnd (E.N (slotA_of hi).2.1) l1 l2).run pins s σ H v u Q I r ?_
    refine q _ (rs.set rv) fun vs hv => ?_
    rw [wipe_set, if_pos (hv i (by simp [tgS, hi]))]
  · cases ha
def tGs (K : PySem.W.Frag) (sc : SC) (es : List Expr) : TGs := fun vs σ H Q => ∃ rho sm xs sm2, RS K H rho sm σ ∧ RVs K H rho xs vs ∧ asgs sc es xs sm = some sm2 ∧
  ∀ σ2, RS K H rho sm2 σ2 → (∀ vs : List Nat, (∀ i ∈ tgS sc (.Tuple es 0 ⟨0, 0, 0, 0⟩), i ∈ vs) → wipe σ2 vs = wipe σ vs) → Q σ2 H
def allNames : List Expr → Bool
  | [] => true
  | .Name _ _ :: r => allNames r
  | _ => false
theorem asgs_names : ∀ {es : List Expr} {xs : List MV} {sm sm2 : MSt}, asgs sc es xs sm = some sm2 → allNames es = true ∧ xs.length = es.length
  | [], [], _, _, _ => ⟨rfl, rfl⟩
  | [], _ :: _, _, _, h => by cases h
  | e :: es, [], _, _, h => by cases e <;> cases h
  | e :: es, x :: xs, sm, sm2, h => by
    cases e with
    | Name y p =>
      simp only [asgs] at h
      split at h
      · obtain ⟨h1, h2⟩ := asgs_names h
        exact ⟨h1, by simp [h2]⟩
      · cases h
    | _ => cases h
theorem sg_names (E : EC g C lv sc W X) : ∀ {es : List Expr}, allNames es = true → PGs X es (tGs X.K sc es)
  | [], _ => ⟨fun pins s σ H vs us Q I r ⟨rho, sm, xs, sm2, rs, rv, ha, q⟩ => by
      cases xs with
      | nil =>
        cases ha
        exact pgs_nil.run pins s σ H vs us Q I r ⟨rv.nil', q σ rs fun _ _ => rfl⟩
      | cons => cases ha⟩
  | .Name y p :: es, h => ⟨fun pins s σ H vs us Q I r ⟨rho, sm, xs, sm2, rs, rv, ha, q⟩ => by
      cases xs with
      | nil => cases ha
      | cons x xs =>
        obtain ⟨v, t, rfl, r1, r2⟩ := rv.cons'
        simp only [asgs] at ha
        split at ha
        · rename_i i hi
          refine (pgs_cons (sg_name (x := y) (p := p) E) (sg_names (es := es) E h) rfl).run pins s σ H _ us Q I r ⟨v, t, rfl, rho, sm, x, sm.set i (some x), rs, r1, (show asg sc (.Name y p) x sm = some (sm.set i (some x)) by simp only [asg, hi]), fun σ2 rs2 w2 => ?_⟩
          refine ⟨rho, _, xs, sm2, rs2, r2, ha, fun σ3 rs3 w3 => q σ3 rs3 fun vs hv => ?_⟩
          rw [w3 vs fun j hj => hv j (by simp only [tgS, List.flatMap_cons, List.mem_append] at hj ⊢; exact .inr hj)]
          exact w2 vs fun j hj => hv j (by simp only [tgS, List.flatMap_cons, List.mem_append] at hj ⊢; exact .inl hj)
        · cases ha⟩
theorem ae_names {env : Env} : ∀ {es : List Expr}, allNames es = true → (assignEach es env).findIdx? (·.1) = none ∧ (assignEach es env).length = es.length
  | [], _ => ⟨rfl, rfl⟩
  | .Name y p :: es, h => by
    obtain ⟨h1, h2⟩ := ae_names (env := env) (es := es) h
    refine ⟨?_, ?_⟩
    · show List.findIdx? (·.1) ((false, assign (.Name y p) env) :: assignEach es env) = none
      rw [List.findIdx?_cons, h1]; rfl
    · show ((false, assign (.Name y p) env) :: assignEach es env).length = _
      rw [List.length_cons, h2]; rfl
theorem sg_ok {tg : Expr} (E : EC g C lv sc W X) : PG X tg (tG X.K sc tg) := by
  refine ⟨fun pins s σ H v u Q I r ⟨rho, sm, y, sm2, rs, rv, ha, q⟩ => ?_⟩
  cases tg with
  | Name x p => exact (sg_name E).run pins s σ H v u Q I r ⟨rho, sm, y, sm2, rs, rv, ha, q⟩
  | Tuple es k p =>
    have key : ∀ (a : Addr) (xs : List MV) (vs : List V), v = .ref a → SqT X.K H a vs → RVs X.K H rho xs vs → asgs sc es xs sm = some sm2 → wpAny (model X.prog X.w) X.A (assign (.Tuple es k p) X.env u) (fun _ s' => ∃ σ' H', L2.Inv X pins σ' H' s' ∧ Q σ' H') X.xe s := by
      intro a xs vs hv hs hr h
      obtain ⟨n1, n2⟩ := asgs_names h
      obtain ⟨h1, h2⟩ := ae_names (env := X.env) n1
      refine (pg_tup E.calm (sg_names E n1) h2 h1).run pins s σ H v u Q I r ⟨a, vs, hv, hs, by rw [← hr.length, n2], rho, sm, xs, sm2, rs, hr, h, fun σ2 r2 w => q σ2 r2 w⟩
    simp only [asg] at ha
    split at ha
    · obtain ⟨a, vs, h1, h2, h3⟩ := rv.tup
      exact key a _ vs h1 (SqT.of h2) h3 ha
    · obtain ⟨a, vs, h1, h2, h3⟩ := rv.kt
      exact key a _ vs h1 h2.sq h3 ha
    · cases ha
  | _ => cases ha
/-! ### list comprehensions -/
theorem ownOf_ix {N : List Str} : ∀ {l : List (Str × NameKind)} {p : Str × Nat}, p ∈ ownOf N l → N[p.2]? = some p.1
  | [], p, h => by cases h
  | (n, k) :: r, p, h => by
    unfold ownOf at h
    have key : ∀ {q : Str × Nat} {o : Option Nat}, o = idx n N → (q ∈ (match o with
      | some i => (n, i) :: ownOf N r
      | none => ownOf N r)) → N[q.2]? = some q.1 := by
      intro q o ho hq
      cases o with
      | none => exact ownOf_ix hq
      | some i =>
        rcases List.mem_cons.mp hq with e | hq
        · subst e
          exact idx_at ho.symm
        · exact ownOf_ix hq
    cases k <;> first | exact key rfl h | exact ownOf_ix h
theorem idx_none {x : Str} : ∀ {l : List Str}, idx x l = none → x ∉ l
  | [], _, h => by cases h
  | y :: r, e, h => by
    unfold idx at e
    split at e
    · cases e
    · rename_i hne
      rcases List.mem_cons.mp h with h | h
      · exact hne h
      · cases q : idx x r with
        | none => exact idx_none q h
        | some j => rw [q] at e; cases e
theorem blk_ok {scope : Scope} (E : EC g C lv sc W X) (h : blkOk sc scope = true) : BlkOk X.N X.env.scope scope (ownOf sc.N scope.names) := by
  unfold blkOk at h
  simp only [Bool.and_eq_true, List.all_eq_true] at h
  obtain ⟨h1, h2⟩ := h
  refine ⟨?_, fun y hy => ?_, fun p hp => ?_, fun y hy hf => ?_, fun y hy hf => ?_⟩
  · split at h1
    · assumption
    · cases h1
  · have := (h2 y hy).1
    simpa using this
  · rw [E.nN]; exact ownOf_ix hp
  · have := (h2 y hy).2.1
    rw [hf] at this
    rw [E.scope]
    simpa using this
  · have := (h2 y hy).2.1
    have hh : ((ownOf sc.N scope.names).any (fun p => decide (p.1 = y.1)) || (idx y.1 sc.N).isNone) = true := by
      rcases hf with hf | hf <;> rw [hf] at this <;> exact this
    rw [E.nN]
    rcases Bool.or_eq_true _ _ |>.mp hh with hh | hh
    · obtain ⟨p, hp, e⟩ := List.any_eq_true.mp hh
      exact .inl (List.mem_map.mpr ⟨p, hp, by simpa using e⟩)
    · exact .inr (idx_none (by simpa using hh))
abbrev W0 : WX := fun _ _ _ _ => False
theorem EC.blk (E : EC g C lv sc W X) (s : Shared) (H : Hp) (scope : Scope) (cl : List (Str × Addr)) (Cc : Addr) (fp : List Addr) : EC g C lv (scIn sc scope) W0 (X.blk s H scope (compEnvC scope cl Cc X.env) fp) where
  nN := E.nN
  nd := E.nd
  scope := by show relS scope X.env.scope = relS scope sc.scope; rw [E.scope]
  calm := E.calm
  fn := fun h => by cases h
  room := E.room
  tkN := fun u s' ⟨_, _, _, _, _, _, _, _, _, _, _, _, _, _, _, _, h⟩ => h
  tk := fun _ u s' ⟨_, _, _, _, _, _, _, _, _, _, _, _, _, _, _, _, h⟩ => h
  gok := E.gok
theorem RT.noEx {α γ β δ : Type} {K : PySem.W.Frag} {nm : Nm} {W W' : WX} {σ σ' : L2.St} {rho : List Addr} {H : Hp} {R : Hp → List Addr → α → β → Prop} {R' : Hp → List Addr → γ → δ → Prop} {Q : δ → Hp → Prop} {r : Res α} {f : α → MH → Res γ} (h : RT K nm R' W σ Q rho H ((noEx r).bind f)) :
    RT K nm R W' σ' (fun b H1 => ∃ rho1 h1 a, r = .ok a h1 ∧ Ex K rho H rho1 H1 ∧ Rel K nm rho1 h1 H1 ∧ R H1 rho1 a b ∧ RT K nm R' W σ Q rho1 H1 (f a h1)) rho H r := by
  cases r with
  | ok a h1 => exact RT.bindE (R := R) (W := W) (σ := σ) h
  | ex e h1 => exact h.elim
  | err => exact h.elim
theorem se_ifs (hL : LvOk g C lv L) (E : EC g C lv sc W X) {ifs : List Expr} (h : ifs.length ≤ 1) : PTs X ifs (tT X.K g.nm W (evIfs (L.t sc) ifs)) := by
  match ifs, h with
  | [], _ => exact ⟨fun pins s σ H Q I ⟨rho, sm, h, rs, rl, rt⟩ => pts_nil.run pins s σ H Q I (rt rho H true Ex.refl rl rfl)⟩
  | [c], _ =>
    refine ⟨fun pins s σ H Q I ⟨rho, sm, h, rs, rl, rt⟩ => (pts_one (hL.t X sc W c E)).run pins s σ H Q I ⟨rho, sm, h, rs, rl, ?_⟩⟩
    have : evIfs (L.t sc) [c] sm h = L.t sc c sm h := by
      show (L.t sc c sm h).bind _ = _
      cases L.t sc c sm h with
      | ok b h1 => cases b <;> rfl
      | _ => rfl
    rw [this] at rt
    exact rt
theorem fold_no {iter : Expr} (h : isSet iter = false) (env : Env) (x : Value) : foldedSetIterable iter env x = pure x := by
  cases iter <;> first | rfl | cases h
def tLcM (X : Cx) (g : GS) (W : WX) (L : Lv) (sc : SC) (elt tg iter : Expr) (ifs : List Expr) (scope : Scope) : TE :=
  tE X.K g.nm W fun sm h => (evIt g sc (L.e sc) iter sm h).bind fun it h1 => lcM L (scIn sc scope) elt tg ifs (wipeM sm (ownN sc scope)) it h1.length (it.fuel h1) 0 (h1 ++ [.lst []])
theorem lc_read {K : PySem.W.Frag} {L : Lv} {sc sc' : SC} {elt tg iter : Expr} {ifs : List Expr} {own : List Nat} (ht : ∀ i ∈ tgS sc' tg, i ∈ own) {σ : L2.St} {H : Hp} {Q : VK} (h : tE K g.nm W (fun sm h => (evIt g sc (L.e sc) iter sm h).bind fun it h1 => lcM L sc' elt tg ifs (wipeM sm own) it h1.length (it.fuel h1) 0 (h1 ++ [.lst []])) σ H Q) :
    tLc (tI K g.nm W (evIt g sc (L.e sc) iter)) (tG K sc' tg) (tT K g.nm W0 (evIfs (L.t sc') ifs)) (tE K g.nm W0 (L.e sc' elt)) own σ H Q := by
  obtain ⟨rho, sm, h, rs, rl, rt⟩ := h
  refine ⟨rho, sm, h, rs, rl, RT.imp (RT.bind rt) fun J H1 ⟨r1, h1, it, e1, rl1, ir, rt1⟩ => ?_⟩
  intro D hD
  have rs1 : RS K H1 r1 sm σ := rs.ex e1
  have e2 : Ex K r1 H1 (r1 ++ [D]) (upd H1 D (.lst [])) := Ex.fresh hD
  refine ⟨fun i m H' => ∃ rho' h', Ex K r1 H1 rho' H' ∧ Rel K g.nm rho' h' H' ∧ rho'[h1.length]? = some D ∧ RT K g.nm (relV' K) W σ Q rho' H' (lcM L sc' elt tg ifs (wipeM sm own) it h1.length m i h'), ⟨it.fuel h1, r1 ++ [D], _, e2, ?_, ?_, rt1.up e2⟩, ?_⟩
  · exact rl1.alloc hD ⟨[], upd_same, by unfold RVs; rfl⟩
  · rw [← rl1.len]; simp
  · rintro i m H' ⟨rho', h', e3, rl3, hd3, rt3⟩
    cases m with
    | zero => exact rt3.elim
    | succ m =>
      unfold lcM at rt3
      obtain ⟨j1, j2⟩ := ir rho' H' h' e3 rl3 i
      split at rt3
      · exact rt3.elim
      · rename_i hat
        exact .inl ⟨j1 hat, rt3 rho' H' _ Ex.refl rl3 (by show RV _ _ _ _ _; unfold RV; exact ⟨D, hd3, rfl⟩)⟩
      · rename_i x hat
        obtain ⟨j3, j4⟩ := j2 x hat
        refine .inr ⟨j3, fun H'' => ∃ rho'' h'', Ex K r1 H1 rho'' H'' ∧ Rel K g.nm rho'' h'' H'' ∧ rho''[h1.length]? = some D ∧ RT K g.nm (relV' K) W σ Q rho'' H'' (lcM L sc' elt tg ifs (wipeM sm own) it h1.length m (i + 1) h''), fun H'' hN => ⟨m, Nat.lt_succ_self _, hN⟩, fun v H'' hy => ?_⟩
        obtain ⟨eH, rv⟩ := j4 v H'' hy
        subst eH
        split at rt3
        · exact rt3.elim
        · rename_i sm2 hsm
          refine ⟨rho', wipeM sm own, x, sm2, (rs1.ex e3).wipe own, rv, hsm, fun σ2 rs2 w2 => ⟨by rw [w2 own ht, wipe_wipe], ?_⟩⟩
          refine ⟨rho', sm2, h', rs2, rl3, RT.imp (RT.noEx rt3) fun b H3 ⟨r4, h4, b', _, e4, rl4, hb, rt4⟩ => ?_⟩
          cases (show b' = b from hb)
          cases b with
          | false => exact ⟨r4, h4, e3.trans e4, rl4, e4.pre _ _ hd3, rt4⟩
          | true =>
            refine ⟨r4, sm2, h4, rs2.ex e4, rl4, RT.imp (RT.noEx rt4) fun y H4 ⟨r5, h5, y', _, e5, rl5, hy, rt5⟩ => ?_⟩
            have hd5 : r5[h1.length]? = some D := e5.pre _ _ (e4.pre _ _ hd3)
            split at rt5
            · rename_i acc hacc
              split at rt5
              · rename_i hl
                obtain ⟨vs, hvs, hrv⟩ := rl5.ob _ _ D hacc hd5
                have hm : Mut (H4 D) := by rw [hvs]; trivial
                refine ⟨vs, hvs, by rw [← hrv.length, ← lim_eq]; exact hl, r5, _, ?_, rl5.put (o := .lst (acc ++ [y'])) hd5 hm ⟨vs ++ [y], upd_same, (hrv.append (RVs.one hy)).mono (Ex.write hm)⟩, hd5, rt5.up (Ex.write hm)⟩
                exact ((e3.trans e4).trans e5).trans (Ex.write hm)
              · exact rt5.elim
            · exact rt5.elim
theorem se_lc {elt tg iter : Expr} {ifs : List Expr} {scope : Scope} {pos : Pos} (hL : LvOk g C lv L) (E : EC g C lv sc W X) : PE X (.ListComp elt [⟨tg, iter, ifs, 0⟩] scope pos) (tE X.K g.nm W (stepE g C L sc (.ListComp elt [⟨tg, iter, ifs, 0⟩] scope pos))) := by
  refine peO fun σ H Q hq => ?_
  cases hc : (blkOk sc scope && ((tgS (scIn sc scope) tg).all (ownN sc scope).contains && (decide (ifs.length ≤ 1) && !isSet iter))) with
  | false =>
    obtain ⟨rho, sm, h, rs, rl, rt⟩ := hq
    simp only [stepE, hc] at rt
    exact rt.elim
  | true =>
    have hh := hc
    simp only [Bool.and_eq_true, decide_eq_true_eq, List.all_eq_true] at hh
    obtain ⟨h1, h2, h3, h4⟩ := hh
    refine ⟨_, pe_lc (g := tG X.K (scIn sc scope) tg) (tt := tT X.K g.nm W0 (evIfs (L.t (scIn sc scope)) ifs)) (te := tE X.K g.nm W0 (L.e (scIn sc scope) elt)) E.calm E.xnd (si_it hL E) (blk_ok E h1) (fun s H Cc cl fp => sg_ok (E.blk s H scope cl Cc fp)) (fun s H Cc cl fp => se_ifs hL (E.blk s H scope cl Cc fp) h3) (fun s H Cc cl fp => hL.e _ _ _ elt (E.blk s H scope cl Cc fp)) (fold_no (by simpa using h4) _), ?_⟩
    refine lc_read (fun i hi => (by have := h2 i hi; exact List.contains_iff_mem.mp this)) ?_
    obtain ⟨rho, sm, h, rs, rl, rt⟩ := hq
    simp only [stepE, hc, if_true] at rt
    exact ⟨rho, sm, h, rs, rl, rt⟩
end
end Mn
end

section
set_option linter.all false
set_option maxRecDepth 100000
set_option maxHeartbeats 4000000
/-! sorted(set(a list of ints)) -/
namespace L2
open PySem PySem.Spec PyProof.Rows
section
variable {P : Program} {w : World} {A : Around} {E : Value → Shared → Prop} {s : Shared}
set_option maxHeartbeats 3200000 in
theorem set_list_ints {l : Addr} {items : Array Value} (ns : List Int) {Q : Value → Shared → Prop} (hh : A.handled = none) (hl : s.heap.IsList l items) (hit : IntsAre items.toList ns) (hb : ns.length + 1 < scanBound)
    (h : ∀ (h' : Heap) (tk c : Nat), SetR w h' s.heap.objs.size (fun j => decide (j ∈ ns)) c → c ≤ ns.length → (∀ b o, s.heap.get? b = some o → h'.get? b = some o) → Q (.ref s.heap.objs.size) { s with heap := h', toks := tk }) :
    wpAny (model P w) A (call (.type "set") [.ref l]) Q E s := by
  have hisz : items.size = ns.length := by
    have q := IntsAre.length hit
    rw [Array.length_toList] at q
    exact q
  obtain ⟨c, tl, hmro⟩ := F.called_set.mro
  have hmade := F.called_set.made
  have hsub := F.called_set.sub
  refine wpAny_call (codeAny_of_tree ?_)
  show wpAny _ _ (callAny (.type "set") _) _ _ _
  refine wpAny_pure ⟨Code.quiet_builtin _ (by decide +kernel), codeAny_builtin F.entry_type_call ?_⟩
  rw [Around.under_plain (weight_type_call_type "set" [.ref l] []) rfl]
  have h1 := F.called_set.notType
  have h2 := F.called_set.canCreate
  have hct := F.typeCall_set_1 (.ref l)
  repeat (any_goals (first | assumption | wp_step))

  refine codeAny_mono (code_set_led1 (.ref l) (E := E) (Q₁ := fun obj s₁ => obj = .ref s.heap.objs.size ∧ s₁ = { s with heap := s.heap.push { cls := .type "set", dict := none, data := .set #[] 0 (.fresh 0 0 (!w.params.followText "set-order")) } }) ⟨rfl, rfl⟩) fun r s₁ hr => ?_
  cases r with
  | error e => exact hr
  | ok fl =>
    cases fl with
    | ret obj =>
      obtain ⟨rfl, rfl⟩ := hr
      have hS : (s.heap.push { cls := .type "set", dict := none, data := .set #[] 0 (.fresh 0 0 (!w.params.followText "set-order")) }).get? s.heap.objs.size = some { cls := .type "set", dict := none, data := .set #[] 0 (.fresh 0 0 (!w.params.followText "set-order")) } := Heap.get?_push_size _ rfl
      have hT : Shared.TypeIs { s with heap := s.heap.push { cls := .type "set", dict := none, data := .set #[] 0 (.fresh 0 0 (!w.params.followText "set-order")) } } (.ref s.heap.objs.size) "set" := ⟨_, hS, rfl⟩
      have hli := F.called_set.init.lookup
      have hbi := F.called_set.init.bind (.ref s.heap.objs.size)
      repeat (any_goals (first | assumption | wp_step))

      refine codeAny_mono (codeAny_call_builtin (R := wants (fun r s₂ => r = .none ∧ ∃ h' tk c, s₂ = { s with heap := h', toks := tk } ∧ SetR w h' s.heap.objs.size (fun j => decide (j ∈ ns)) c ∧ c ≤ ns.length ∧
          (∀ b o, s.heap.get? b = some o → h'.get? b = some o)) E) F.called_set.init.plain F.entry_set_init (check_set_init_1 hT ?_)) fun r₂ s₂ hr₂ => ?_
      · obtain ⟨ol, hol, hcl, nl, hdl⟩ := hl
        obtain ⟨ocls, odict, odata, oslots⟩ := ol
        simp only at hcl hdl
        subst hcl; subst hdl
        have hol' : (s.heap.push { cls := .type "set", dict := none, data := .set #[] 0 (.fresh 0 0 (!w.params.followText "set-order")) }).get? l = some { cls := .type "list", dict := odict, data := .seq items nl, slots := oslots } := Heap.get?_push_of_some _ hol
        have hsls := F.sub_list_set
        have hslf := F.sub_list_frozenset
        have hne : (Value.type "list" == Value.type "dict") = false := by decide
        have hl1 : (s.heap.push { cls := .type "set", dict := none, data := .set #[] 0 (.fresh 0 0 (!w.params.followText "set-order")) }).IsList l items := ⟨_, hol', rfl, nl, rfl⟩
        unfold Builtin.«set.__init__» noKeywords Builtin.Frozenset.updateFrom
        generalize hPI : pyIter = PI
        wp_walk
        subst hPI

        refine wpAny_pyIter_list hl1 ?_
        refine wpAny_bind (wpAny_runValue ?_)
        have hlS : l < s.heap.objs.size := Heap.lt_size hol
        have hh3 : A.in1.in1.in1.handled = none := by simp [hh]
        have hz1 : (s.heap.push { cls := .type "set", dict := none, data := .set #[] 0 (.fresh 0 0 (!w.params.followText "set-order")) }).objs.size = s.heap.objs.size + 1 := Heap.size_push ..
        have hneI : l ≠ (s.heap.push { cls := .type "set", dict := none, data := .set #[] 0 (.fresh 0 0 (!w.params.followText "set-order")) }).objs.size := by
          rw [Heap.size_push]; exact Nat.ne_of_lt (Nat.lt_succ_of_lt hlS)
        have hSf : s.heap.objs.size ∉ [(s.heap.push { cls := .type "set", dict := none, data := .set #[] 0 (.fresh 0 0 (!w.params.followText "set-order")) }).objs.size, l] := by
          rw [Heap.size_push]; simp only [List.mem_cons, List.mem_singleton, List.not_mem_nil, or_false, not_or]
          exact ⟨Nat.ne_of_lt (Nat.lt_succ_self _), Nat.ne_of_gt hlS⟩
        have hval : ∀ (i : Nat) (v : Value), items[i]? = some v → ∃ k t, ns[i]? = some k ∧ v = .int k t := fun i v hv => by
          have hi : i < ns.length := by rw [← hisz]; exact (Array.getElem?_eq_some_iff.mp hv).1
          obtain ⟨t, e⟩ := PyProof.Rows.IntsAre.int_at hit i v (by rw [Array.getElem?_toList]; exact hv)
          refine ⟨ns[i], t, List.getElem?_eq_getElem hi, ?_⟩
          rw [e, List.getD_eq_getElem?_getD, List.getElem?_eq_getElem hi] <;> rfl
        refine set_update_ints ((Walks.list hh3 _ l hneI items).toS) s.heap.objs.size
          hSf ns hisz hb hval (items.size - 0) 0 _ (by omega) (Nat.zero_le _)
          ⟨⟨_, Heap.get?_push_size _ rfl, rfl, rfl⟩, (hl1.push _)⟩ ?hS0 ?hR
        case hS0 =>
          have hget : ((s.heap.push { cls := .type "set", dict := none, data := .set #[] 0 (.fresh 0 0 (!w.params.followText "set-order")) }).push { cls := .type "list_iterator", data := .fields #[.ref l, .int 0 0] }).get? s.heap.objs.size
              = some { cls := .type "set", dict := none, data := .set #[] 0 (.fresh 0 0 (!w.params.followText "set-order")) } := Heap.get?_push_of_some _ hS
          exact ⟨0, Nat.le_refl 0, setR_new_at hget⟩
        case hR =>
          intro s' c' hm hc' hS'
          obtain ⟨h', g2, d', tk', os'⟩ := s'
          have eg : g2 = s.gens := hm.gens
          have ed : d' = s.drawn := hm.drawn
          have eo : os' = s.os := hm.os
          subst eg; subst ed; subst eo
          show wpAny _ _ _ _ _ _
          refine wpAny_pure ?_
          show wpAny _ _ (ret Value.none) _ _ _
          rw [hisz] at hc'
          refine wpAny_pure ⟨rfl, h', tk', c', rfl, hS', hc', fun b o e => ?_⟩
          have hb0 : b < s.heap.objs.size := Heap.lt_size e
          have hb1 : b ≠ s.heap.objs.size := Nat.ne_of_lt hb0
          have hb2 : b ≠ (s.heap.push { cls := .type "set", dict := none, data := .set #[] 0 (.fresh 0 0 (!w.params.followText "set-order")) }).objs.size := by
            rw [Heap.size_push]; exact Nat.ne_of_lt (Nat.lt_succ_of_lt hb0)
          exact hm.heap b o (by simp only [List.mem_cons, List.mem_singleton, List.not_mem_nil, or_false, not_or]; exact ⟨hb1, hb2⟩) (Heap.get?_push_of_some _ (Heap.get?_push_of_some _ e))

      · cases r₂ with
        | error e => exact hr₂
        | ok fl₂ =>
          cases fl₂ with
          | ret r =>
            obtain ⟨rfl, h', tk, c', rfl, hS', hc', hk'⟩ := hr₂
            repeat (any_goals (first | assumption | wp_step))
            exact h _ _ _ hS' hc' hk'
          | _ => exact hr₂.elim
    | _ => exact hr.elim

end
end L2
end

section
set_option autoImplicit false
set_option linter.all false
set_option maxRecDepth 100000
set_option maxHeartbeats 1000000
/-! sorted(set(..)); all expressions together -/
namespace Mn
open PySem PySem.Spec L2
section
variable {X : Cx}
def rSetL (K : PySem.W.Frag) (w : World) : List V → Hp → VK → Prop := fun xs H Q => ∃ (a : Addr) (ns : List Int), xs = [.ref a] ∧ SqL K H a (ns.map V.int) ∧ ns.length < 64 ∧
  ∀ p c, H p = none → c ≤ ns.length → Q (.ref p) (upd H p (SetO w p (fun j => decide (j ∈ ns)) c))
theorem cr_setL (hc : X.calm = true) : CallR X (.type "set") (rSetL X.K X.w) := by
  intro pins s σ H xs us Q I r h
  obtain ⟨a, ns, rfl, hq, hl, q⟩ := h
  rw [Vals.ref1 r]
  obtain ⟨its, rv, pl, hz⟩ := I.list hq
  refine set_list_ints ns (I.ok.hd hc) pl.isList (by simpa using ints_of_vals rv) (by unfold scanBound; omega) fun h' tk c R1 hcn k => ?_
  exact ⟨.ref _, upd H s.heap.objs.size (SetO X.w s.heap.objs.size (fun j => decide (j ∈ ns)) c), I.laid (t' := tk) (h' := h') (fun b u e => k b u e) (Nat.le_refl _) (setO_new R1), rfl, q _ _ (I.hok.fresh (Nat.le_refl _)) hcn⟩
theorem dedI_mem {k : Int} : ∀ {l : List Int}, k ∈ dedI l ↔ k ∈ l
  | [] => by simp [dedI]
  | x :: r => by
    unfold dedI
    split
    · rename_i h
      rw [dedI_mem, List.mem_cons]
      have hx : x ∈ r := dedI_mem.mp (by simpa using h)
      exact ⟨.inr, fun h => h.elim (fun e => e ▸ hx) id⟩
    · rw [List.mem_cons, List.mem_cons, dedI_mem]
theorem dedI_nodup : ∀ {l : List Int}, (dedI l).Nodup
  | [] => by simp [dedI]
  | x :: r => by
    unfold dedI
    split
    · exact dedI_nodup
    · rename_i h
      exact List.nodup_cons.mpr ⟨by simpa using h, dedI_nodup⟩
theorem set_sorted {ns out : List Int} (hp : out.Pairwise (· < ·)) (hm : ∀ k : Int, k ∈ out ↔ decide (k ∈ ns) = true) : out = sortI (dedI ns) := by
  refine sortI_of ?_ (hp.imp fun h => Int.le_of_lt h)
  refine (List.perm_ext_iff_of_nodup (hp.imp fun h => Int.ne_of_lt h) dedI_nodup).mpr fun k => ?_
  rw [hm, dedI_mem]
  simp
end
section
variable {g : GS} {C : CallS} {lv : Nat} {sc : SC} {W : WX} {X : Cx} {L : Lv}
theorem se_sset {a : Expr} {x y : Str} {p1 p2 pos1 pos2 : Pos} (hL : LvOk g C lv L) (E : EC g C lv sc W X) (hx : x = ("sorted" : Str)) (hy : y = ("set" : Str)) (hgx : sc.gl x = true) (hgy : sc.gl y = true) (hbx : g.bltn x = true) (hby : g.bltn y = true) (hp : plainA [a] = true) :
    PE X (.Call (.Name x p1) [.Call (.Name y p2) [a] [] pos2] [] pos1) (tE X.K g.nm W fun sm h => (L.e sc a sm h).bind fun v h1 => setSort h1 v) := by
  subst hx hy
  refine peI (pe_callB (cr_sortedSet E.calm) (E.gl hgx) (E.gok.free _ hbx) PyProof.Rows.boot_sorted (pa_cons (pe_callTy (cr_setL E.calm) (E.gl hgy) (E.gok.free _ hby) PyProof.Rows.boot_set (pa_cons (hL.e X sc W a E) pa_nil (plain_star hp _)) (by decide) (by decide) (plain_star hp _) rfl) pa_nil rfl) (by decide) (by decide) rfl rfl) fun σ H Q ⟨rho, sm, h, rs, rl, rt⟩ => ?_
  refine ⟨rho, sm, h, rs, rl, RT.imp (RT.bind rt) fun v H1 ⟨r1, h1, b, e1, rl1, ra, rt1⟩ => ?_⟩
  show rSetL X.K X.w [v] H1 fun x H1 => rSortedSet X.w [x] H1 Q
  unfold setSort at rt1
  split at rt1
  · rename_i i
    split at rt1
    · rename_i xs hi
      split at rt1
      · rename_i ns hn
        split at rt1
        · rename_i hl
          obtain ⟨q, vs, rfl, _, h3, h4⟩ := rl1.lst hi ra
          rw [intsM_eq hn] at h4
          rw [h4.ints] at h3
          refine ⟨q, ns, rfl, SqL.of h3, hl, fun p c hp hc => ?_⟩
          show rSortedSet X.w [.ref p] _ Q
          refine ⟨p, _, c, rfl, upd_same, by omega, fun out p' s1 s2 s3 s4 => ?_⟩
          rw [set_sorted s1 s2]
          exact RT.lst (rt1.up (Ex.fresh0 hp)) (rl1.aside hp) (RVs.of_ints _) s4
        · exact rt1.elim
      · exact rt1.elim
    · exact rt1.elim
  · exact rt1.elim
theorem peE {X : Cx} {e : Expr} {K : PySem.W.Frag} {nm : Nm} {W : WX} {m m' : MSt → MH → Res MV} (h : PE X e (tE K nm W m)) (q : m' = m) : PE X e (tE K nm W m') := by rw [q]; exact h
theorem peN {X : Cx} {e : Expr} {K : PySem.W.Frag} {nm : Nm} {W : WX} {m : MSt → MH → Res MV} (q : ∀ sm h, m sm h = .err) : PE X e (tE K nm W m) := peO fun σ H Q ⟨rho, sm, h, rs, rl, rt⟩ => by rw [q] at rt; exact rt.elim
theorem ptN {X : Cx} {e : Expr} {K : PySem.W.Frag} {nm : Nm} {W : WX} {m : MSt → MH → Res Bool} (q : ∀ sm h, m sm h = .err) : PT X e (tT K nm W m) := ptO fun σ H Q ⟨rho, sm, h, rs, rl, rt⟩ => by rw [q] at rt; exact rt.elim
theorem se_isiM {x : Str} {p pos : Pos} {es : List Expr} (hL : LvOk g C lv L) (E : EC g C lv sc W X) (hx : x = ("isinstance" : Str)) (hg : sc.gl x = true) (hb : g.bltn x = true) (hp : plainA es = true) : PE X (.Call (.Name x p) es [] pos) (tE X.K g.nm W (isiM g L sc es)) := by
  unfold isiM
  split
  · rename_i a t1 t2 k p2
    cases h1 : tyNm g sc t1 with
    | none => exact peN fun sm h => rfl
    | some T1 =>
      cases h2 : tyNm g sc t2 with
      | none => exact peN fun sm h => rfl
      | some T2 => exact se_isi2 hL E hx hg hb hp h1 h2
  · rename_i a t1 hne
    cases h1 : tyNm g sc t1 with
    | none => exact peN fun sm h => rfl
    | some T1 => exact se_isi1 hL E hx hg hb hp h1
  · exact peN fun sm h => rfl
theorem se_callName {x : Str} {p pos : Pos} {es : List Expr} (hL : LvOk g C lv L) (E : EC g C lv sc W X) : PE X (.Call (.Name x p) es [] pos) (tE X.K g.nm W (stepE g C L sc (.Call (.Name x p) es [] pos))) := by
  cases hc : (sc.gl x && plainA es) with
  | false => exact peN fun sm h => by simp only [stepE, hc]; rfl
  | true =>
    have hh := hc
    simp only [Bool.and_eq_true] at hh
    obtain ⟨hg, hp⟩ := hh
    by_cases hi : x = ("isinstance" : Str) ∧ g.bltn x = true
    · exact peE (se_isiM hL E hi.1 hg hi.2 hp) (by funext sm h; simp only [stepE, hc, if_true]; rw [if_pos hi])
    · have gen : ∀ (m : MSt → MH → Res MV), (∀ sm h, m sm h = if okN g x es = true then (evA (L.e sc) es sm h).bind fun vs h1 => callN g C sc.md x vs h1 else .err) → PE X (.Call (.Name x p) es [] pos) (tE X.K g.nm W m) := by
        intro m hm
        cases hk : okN g x es with
        | false => exact peN fun sm h => by rw [hm, hk]; rfl
        | true => exact peE (se_callN hL E hg hp hk) (by funext sm h; rw [hm, hk]; rfl)
      cases hin : inArg es with
      | none =>
        refine gen _ fun sm h => ?_
        simp only [stepE, hc, if_true, hin]
        rw [if_neg hi]
      | some ya =>
        obtain ⟨y, a⟩ := ya
        by_cases hs : x = ("sorted" : Str) ∧ y = ("set" : Str) ∧ g.bltn x = true ∧ g.bltn y = true ∧ sc.gl y = true ∧ plainA [a] = true
        · obtain ⟨p2, pos2, rfl⟩ : ∃ p2 pos2, es = [.Call (.Name y p2) [a] [] pos2] := by
            unfold inArg at hin
            split at hin
            · cases hin; exact ⟨_, _, rfl⟩
            · cases hin
          refine peE (se_sset hL E hs.1 hs.2.1 hg hs.2.2.2.2.1 hs.2.2.1 hs.2.2.2.1 hs.2.2.2.2.2) ?_
          funext sm h
          simp only [stepE, hc, if_true, hin]
          rw [if_neg hi, if_pos hs]
        · refine gen _ fun sm h => ?_
          simp only [stepE, hc, if_true, hin]
          rw [if_neg hi, if_neg hs]
theorem stepE_ok (hL : LvOk g C lv L) (E : EC g C lv sc W X) (e : Expr) : PE X e (tE X.K g.nm W (stepE g C L sc e)) := by
  unfold stepE
  split
  · exact se_const (L := L) E
  · exact se_name (L := L) E
  · exact se_bin hL E
  · exact se_un hL E
  · exact se_boolop hL E _
  · exact se_cmp hL E
  · exact se_chain hL E
  · exact se_if hL E
  · exact se_tuple hL E
  · exact se_list hL E
  · exact se_dict (L := L) (C := C) (sc := sc)
  · exact se_lc hL E
  · exact se_callName hL E
  · exact se_method hL E
  · exact se_attr hL E
  · exact se_slice hL E
  · split
    · exact peN fun sm h => rfl
    · rename_i hne
      refine peE (se_sub hL E (fun a b c p h => hne a b c p h)) ?_
      funext sm h
      rename_i i _ _ _
      cases i <;> first | rfl | exact (hne _ _ _ _ rfl).elim
  · exact peN fun sm h => rfl
theorem stepT_ok (hL : LvOk g C lv L) (E : EC g C lv sc W X) (e : Expr) : PT X e (tT X.K g.nm W (stepT g C L sc e)) := by
  unfold stepT
  split
  · rename_i a pos
    refine ptI (pt_not (hL.t X sc W a E)) fun σ H Q ⟨rho, sm, h, rs, rl, rt⟩ => ?_
    refine ⟨rho, sm, h, rs, rl, RT.imp (RT.bind rt) fun k H1 ⟨r1, h1, a, e1, rl1, ra, rt1⟩ => ?_⟩
    cases (show a = k from ra)
    exact rt1 r1 H1 _ Ex.refl rl1 rfl
  · rename_i op vs pos
    cases vs with
    | nil => exact ptN fun sm h => rfl
    | cons a r => exact (st_boolop hL E _ (by simp)).pt
  · exact st_cmp hL E
  · exact st_chain hL E
  · exact ptN fun sm h => rfl
  · exact ptN fun sm h => rfl
  · rename_i h1 h2 h3 h4 h5 h6
    refine ptI (pt_truth (hL.e X sc W e E) ?_) fun σ H Q ⟨rho, sm, h, rs, rl, rt⟩ => ?_
    · intro whole
      cases e with
      | UnaryOp op a pos =>
        cases op with
        | Not => exact absurd rfl (h1 _ _)
        | _ => rfl
      | BoolOp op vs pos => exact absurd rfl (h2 _ _ _)
      | Compare a ops bs pos => exact absurd rfl (h5 _ _ _ _)
      | IfExp => exact absurd rfl (h6 _ _ _ _)
      | _ => rfl
    · refine ⟨rho, sm, h, rs, rl, RT.imp (RT.bind rt) fun x H1 ⟨r1, h1, a, e1, rl1, ra, rt1⟩ => ?_⟩
      obtain ⟨b, hb, rt2⟩ := rt_opt rt1
      exact ⟨b, truth_ok rl1 hb ra, rt2 r1 H1 _ Ex.refl rl1 rfl⟩
theorem lv_ok : ∀ n : Nat, LvOk g C lv (lvN g C n)
  | 0 => ⟨fun X sc W e E => peN fun sm h => rfl, fun X sc W e E => ptN fun sm h => rfl⟩
  | n + 1 => ⟨fun X sc W e E => stepE_ok (lv_ok n) E e, fun X sc W e E => stepT_ok (lv_ok n) E e⟩
end
end Mn
end

section
set_option autoImplicit false
set_option linter.all false
set_option maxRecDepth 100000
set_option maxHeartbeats 1000000
/-! statements -/
namespace Mn
open PySem PySem.Spec L2
/-! ### an exception whose context is None is an exception -/
theorem sky_mono {B : Heap} {l : List Env} {a : Addr} {Z Z' : Obj → Prop} {L : Addr} {h : Heap} (z : ∀ o, Z o → Z' o) (k : Sky B l a Z L h) : Sky B l a Z' L h := by
  rcases k with ⟨h1, h2, h3, oe, vs, h4, h5, h6⟩ | ⟨h1, h2, h3, oe, vs, T, oT, ts, h4, h5, h6⟩ | ⟨h1, h2, h3, oe, vs, T, oT, ts, h4, h5, h6⟩
  · exact .inl ⟨h1, h2, h3, oe, vs, h4, z _ h5, h6⟩
  · exact .inr (.inl ⟨h1, h2, h3, oe, vs, T, oT, ts, h4, z _ h5, h6⟩)
  · exact .inr (.inr ⟨h1, h2, h3, oe, vs, T, oT, ts, h4, z _ h5, h6⟩)
theorem takesN {X : Cx} {W : WX} (t : L2.Takes X W) : L2N.Takes X W := fun u s' ⟨a, B, sI, pins, σ, H, cls, d, e, I, nb, up, sky, r⟩ =>
  t u s' ⟨a, B, sI, pins, σ, H, cls, d, e, I, nb, up, sky_mono (fun o z => ⟨z.1, z.2.1⟩) sky, r⟩
/-! ### readings -/
def RTS (K : PySem.W.Frag) (nm : Nm) (W : WX) (D : Ends) (rho : List Addr) (H : Hp) : SR → Prop
  | .nx sm h => ∀ rho' H' σ', Ex K rho H rho' H' → Rel K nm rho' h H' → RS K H' rho' sm σ' → D.nx σ' H'
  | .rt v h => ∀ rho' H' v', Ex K rho H rho' H' → Rel K nm rho' h H' → RV K H' rho' v v' → D.rt v' H'
  | .bk sm h => ∀ rho' H' σ', Ex K rho H rho' H' → Rel K nm rho' h H' → RS K H' rho' sm σ' → D.bk σ' H'
  | .ct sm h => ∀ rho' H' σ', Ex K rho H rho' H' → Rel K nm rho' h H' → RS K H' rho' sm σ' → D.ct σ' H'
  | .ex e sm h => ∀ rho' H' σ' C d, Ex K rho H rho' H' → Rel K nm rho' h H' → RS K H' rho' sm σ' → RX K nm H' rho' e C d → W C d σ' H'
  | .err => False
def tS (K : PySem.W.Frag) (nm : Nm) (W : WX) (m : MSt → MH → SR) : TS := fun D σ H => ∃ rho sm h, RS K H rho sm σ ∧ Rel K nm rho h H ∧ RTS K nm W D rho H (m sm h)
section
variable {K : PySem.W.Frag} {nm : Nm} {W : WX} {D : Ends} {rho rho' : List Addr} {H H' : Hp} {σ : L2.St}
theorem RTS.up {r : SR} (h : RTS K nm W D rho H r) (e : Ex K rho H rho' H') : RTS K nm W D rho' H' r := by
  cases r with
  | nx sm h2 => exact fun r2 H2 b2 x1 x2 x3 => h r2 H2 b2 (e.trans x1) x2 x3
  | rt v h2 => exact fun r2 H2 b2 x1 x2 x3 => h r2 H2 b2 (e.trans x1) x2 x3
  | bk sm h2 => exact fun r2 H2 b2 x1 x2 x3 => h r2 H2 b2 (e.trans x1) x2 x3
  | ct sm h2 => exact fun r2 H2 b2 x1 x2 x3 => h r2 H2 b2 (e.trans x1) x2 x3
  | ex e' sm h2 => exact fun r2 H2 b2 C d x1 x2 x3 x4 => h r2 H2 b2 C d (e.trans x1) x2 x3 x4
  | err => exact h
theorem RTS.then' {α β : Type} {R : Hp → List Addr → α → β → Prop} {r : Res α} {sm : MSt} {f : α → MH → SR} (h : RTS K nm W D rho H (r.then' sm f)) (rs : RS K H rho sm σ) :
    RT K nm R W σ (fun b H1 => ∃ rho1 h1 a, r = .ok a h1 ∧ Ex K rho H rho1 H1 ∧ Rel K nm rho1 h1 H1 ∧ R H1 rho1 a b ∧ RTS K nm W D rho1 H1 (f a h1)) rho H r := by
  cases r with
  | ok a h1 => exact fun rho' H' b e1 e2 e3 => ⟨rho', h1, a, rfl, e1, e2, e3, RTS.up (show RTS K nm W D rho H (f a h1) from h) e1⟩
  | ex e h1 => exact fun rho' H' C d e1 e2 e3 => h rho' H' σ C d e1 e2 (rs.ex e1) e3
  | err => exact h
theorem RTS.imp {D' : Ends} {r : SR} (h : RTS K nm W D rho H r) (n : ∀ σ H, D.nx σ H → D'.nx σ H) (t : ∀ v H, D.rt v H → D'.rt v H) (b : ∀ σ H, D.bk σ H → D'.bk σ H) (c : ∀ σ H, D.ct σ H → D'.ct σ H) : RTS K nm W D' rho H r := by
  cases r with
  | nx sm h2 => exact fun r2 H2 b2 x1 x2 x3 => n _ _ (h r2 H2 b2 x1 x2 x3)
  | rt v h2 => exact fun r2 H2 b2 x1 x2 x3 => t _ _ (h r2 H2 b2 x1 x2 x3)
  | bk sm h2 => exact fun r2 H2 b2 x1 x2 x3 => b _ _ (h r2 H2 b2 x1 x2 x3)
  | ct sm h2 => exact fun r2 H2 b2 x1 x2 x3 => c _ _ (h r2 H2 b2 x1 x2 x3)
  | ex e' sm h2 => exact h
  | err => exact h
end
theorem psI {X : Cx} {st : Stmt} {t t' : TS} (h : PS X st t) (i : ∀ D σ H, t' D σ H → t D σ H) : PS X st t' := ⟨fun pins s σ H D I q => h.run pins s σ H D I (i _ _ _ q)⟩
theorem psO {X : Cx} {st : Stmt} {t : TS} (h : ∀ D σ H, t D σ H → ∃ t', PS X st t' ∧ t' D σ H) : PS X st t := ⟨fun pins s σ H D I q => by
  obtain ⟨t', p, q'⟩ := h D σ H q
  exact p.run pins s σ H D I q'⟩
theorem psN {X : Cx} {st : Stmt} {K : PySem.W.Frag} {nm : Nm} {W : WX} {m : MSt → MH → SR} (q : ∀ sm h, m sm h = .err) : PS X st (tS K nm W m) := psO fun D σ H ⟨rho, sm, h, rs, rl, rt⟩ => by rw [q] at rt; exact rt.elim
theorem psE {X : Cx} {st : Stmt} {K : PySem.W.Frag} {nm : Nm} {W : WX} {m m' : MSt → MH → SR} (h : PS X st (tS K nm W m)) (q : m' = m) : PS X st (tS K nm W m') := by rw [q]; exact h
/-- the context of a statement -/
structure SX (g : GS) (C : CallS) (lv : Nat) (sc : SC) (W : WX) (X : Cx) : Prop where
  ec : EC g C lv sc W X
  hs : X.stack = X.env :: X.outer
  hf : X.env.frame = some X.env.locals
  own : PassesOwn (model X.prog X.w) X.A X.env X.xe
  hpa : sc.tp = true → ∀ hd : Option Value, PassesOwnAt (model X.prog X.w) (X.A.mark hd) X.A X.env X.xe
structure LsOk (g : GS) (C : CallS) (lv : Nat) (L : LvS) : Prop where
  s : ∀ (X : Cx) (sc : SC) (W : WX) (st : Stmt), SX g C lv sc W X → PS X st (tS X.K g.nm W (L sc st))
section
variable {g : GS} {C : CallS} {lv : Nat} {sc : SC} {W : WX} {X : Cx} {L : Lv} {M : LvS}
theorem peR {K : PySem.W.Frag} {nm : Nm} {m m' : MSt → MH → Res MV} {σ : L2.St} {H : Hp} {Q : VK} (h : tE K nm W m σ H Q) (e : m = m') : tE K nm W m' σ H Q := by rw [← e]; exact h
theorem ss_body (hM : LsOk g C lv M) (E : SX g C lv sc W X) : ∀ b : List Stmt, PSs X b (tS X.K g.nm W (exB (M sc) b))
  | [] => ⟨fun pins s σ H D I ⟨rho, sm, h, rs, rl, rt⟩ => pss_nil.run pins s σ H D I (rt rho H σ Ex.refl rl rs)⟩
  | st :: r => ⟨fun pins s σ H D I ⟨rho, sm, h, rs, rl, rt⟩ => (pss_cons (hM.s X sc W st E) (ss_body hM E r)).run pins s σ H D I ⟨rho, sm, h, rs, rl, by
      have rt' : RTS X.K g.nm W D rho H (match M sc st sm h with
        | .nx sm' h' => exB (M sc) r sm' h'
        | x => x) := rt
      cases hq : M sc st sm h with
      | nx sm' h' =>
        rw [hq] at rt'
        exact fun r2 H2 σ2 x1 x2 x3 => ⟨r2, sm', h', x3, x2, rt'.up x1⟩
      | rt v h' => rw [hq] at rt'; exact rt'
      | bk v h' => rw [hq] at rt'; exact rt'
      | ct v h' => rw [hq] at rt'; exact rt'
      | ex v s h' => rw [hq] at rt'; exact rt'
      | err => rw [hq] at rt'; exact rt'⟩⟩
theorem sw_no {e : Expr} (h : isLc e = false) {t : Option Expr} {l : Nat} {env : Env} : swapsWith e t l env = pure false := by
  cases e <;> first | rfl | cases h
theorem sw_other {e t : Expr} {l : Nat} {env : Env} (ht : ∀ x p, t ≠ .Name x p) : swapsWith e (some t) l env = pure false := by
  cases e <;> first | rfl | (cases t <;> first | rfl | exact absurd rfl (ht _ _))
theorem ev_e (e : Expr) : (ev g C).e sc e = stepE g C (lvN g C 39) sc e := rfl
theorem se_ev (E : EC g C lv sc W X) (e : Expr) : PE X e (tE X.K g.nm W ((ev g C).e sc e)) := (lv_ok deepE).e X sc W e E
theorem st_ev (E : EC g C lv sc W X) (e : Expr) : PT X e (tT X.K g.nm W ((ev g C).t sc e)) := (lv_ok deepE).t X sc W e E
theorem ss_pass {p : Pos} : PS X (.Pass p) (tS X.K g.nm W fun sm h => .nx sm h) := psI ps_pass fun D σ H ⟨rho, sm, h, rs, rl, rt⟩ => rt rho H σ Ex.refl rl rs
theorem ss_break {p : Pos} : PS X (.Break p) (tS X.K g.nm W fun sm h => .bk sm h) := psI ps_break fun D σ H ⟨rho, sm, h, rs, rl, rt⟩ => rt rho H σ Ex.refl rl rs
theorem ss_cont {p : Pos} : PS X (.Continue p) (tS X.K g.nm W fun sm h => .ct sm h) := psI ps_continue fun D σ H ⟨rho, sm, h, rs, rl, rt⟩ => rt rho H σ Ex.refl rl rs
theorem ss_retN {p : Pos} : PS X (.Return none p) (tS X.K g.nm W fun sm h => .rt .non h) := psI ps_retN fun D σ H ⟨rho, sm, h, rs, rl, rt⟩ => rt rho H .non Ex.refl rl (by unfold RV; rfl)
theorem ss_expr {e : Expr} {p : Pos} (E : SX g C lv sc W X) : PS X (.Expr e p) (tS X.K g.nm W (stepS g (ev g C) M sc (.Expr e p))) := by
  cases hl : isLc e with
  | true => exact psN fun sm h => by simp only [stepS, hl]; rfl
  | false =>
    refine psI (ps_expr (se_ev E.ec e) (sw_no hl)) fun D σ H ⟨rho, sm, h, rs, rl, rt⟩ => ?_
    simp only [stepS, hl] at rt
    refine ⟨rho, sm, h, rs, rl, RT.imp (RTS.then' rt rs) fun x H1 ⟨r1, h1, a, _, e1, rl1, ra, rt1⟩ => rt1 r1 H1 σ Ex.refl rl1 (rs.ex e1)⟩
theorem ss_ret {e : Expr} {p : Pos} (E : SX g C lv sc W X) : PS X (.Return (some e) p) (tS X.K g.nm W (stepS g (ev g C) M sc (.Return (some e) p))) := by
  refine psI (ps_ret (se_ev E.ec e)) fun D σ H ⟨rho, sm, h, rs, rl, rt⟩ => ?_
  simp only [stepS] at rt
  exact ⟨rho, sm, h, rs, rl, RT.imp (RTS.then' rt rs) fun x H1 ⟨r1, h1, a, _, e1, rl1, ra, rt1⟩ => rt1 r1 H1 x Ex.refl rl1 ra⟩
theorem ss_name {x : Str} {e : Expr} {p pos : Pos} (E : SX g C lv sc W X) : PS X (.Assign [.Name x p] e pos) (tS X.K g.nm W (stepS g (ev g C) M sc (.Assign [.Name x p] e pos))) := by
  cases hi : sc.slotA x with
  | none => exact psN fun sm h => by simp only [stepS, hi]
  | some i =>
    obtain ⟨l1, l2⟩ := E.ec.loc hi
    have hN := E.ec.N (slotA_of hi).2.1
    have rd : ∀ {D : Ends} {σ : L2.St} {H : Hp}, tS X.K g.nm W (stepS g (ev g C) M sc (.Assign [.Name x p] e pos)) D σ H → tAsg (tE X.K g.nm W ((ev g C).e sc e)) (gName i) D σ H := by
      intro D σ H ⟨rho, sm, h, rs, rl, rt⟩
      simp only [stepS, hi] at rt
      exact ⟨rho, sm, h, rs, rl, RT.imp (RTS.then' rt rs) fun x H1 ⟨r1, h1, a, _, e1, rl1, ra, rt1⟩ => rt1 r1 H1 _ Ex.refl rl1 ((rs.ex e1).set ra)⟩
    cases hl : isLc e with
    | false => exact psI (ps_set E.ec.xnd hN l1 (se_ev E.ec e) (sw_no hl) l2) fun D σ H q => rd q
    | true =>
      have nog : ((ev g C).e sc e = fun sm h => .err) → PS X (.Assign [.Name x p] e pos) (tS X.K g.nm W (stepS g (ev g C) M sc (.Assign [.Name x p] e pos))) := fun hh => psN fun sm h => by
        simp only [stepS, hi, hh]; rfl
      cases e with
      | SetComp => exact nog rfl
      | DictComp => exact nog rfl
      | ListComp elt gs scope lp =>
        have hsw : ∃ b, swapsWith (.ListComp elt gs scope lp) (some (.Name x p)) pos.line X.env = pure b ∧ (b = true → X.env.scope.names.lookup x = some .local) := by
          refine ⟨_, rfl, fun hb => ?_⟩
          simp only [Bool.and_eq_true, beq_iff_eq] at hb
          exact hb.1.1.2
        obtain ⟨b, hb, hloc⟩ := hsw
        cases b with
        | false => exact psI (ps_set E.ec.xnd hN l1 (se_ev E.ec _) hb l2) fun D σ H q => rd q
        | true =>
          match gs with
          | [] => exact nog rfl
          | [⟨tg, iter, ifs, k⟩] =>
            by_cases hk : k = 0
            case neg =>
              refine nog ?_
              funext sm h
              rw [ev_e]
              unfold stepE
              split <;> first | rfl | (rename_i heq; cases heq; exact absurd rfl hk) | (rename_i heq; cases heq)
            subst hk
            cases hc : (blkOk sc scope && ((tgS (scIn sc scope) tg).all (ownN sc scope).contains && (decide (ifs.length ≤ 1) && !isSet iter))) with
            | false => exact nog (by funext sm h; rw [ev_e]; simp only [stepE, hc]; rfl)
            | true =>
              have hh := hc
              simp only [Bool.and_eq_true, decide_eq_true_eq, List.all_eq_true] at hh
              obtain ⟨h1, h2, h3, h4⟩ := hh
              have hL := lv_ok (g := g) (C := C) (lv := lv) 39
              refine psI (ps_setLc (g := tG X.K (scIn sc scope) tg) (tt := tT X.K g.nm W0 (evIfs ((lvN g C 39).t (scIn sc scope)) ifs)) (te := tE X.K g.nm W0 ((lvN g C 39).e (scIn sc scope) elt)) E.ec.calm E.ec.xnd hN (hloc rfl) hb (si_it hL E.ec) (blk_ok E.ec h1) (fun s H Cc cl fp => sg_ok (E.ec.blk s H scope cl Cc fp)) (fun s H Cc cl fp => se_ifs hL (E.ec.blk s H scope cl Cc fp) h3) (fun s H Cc cl fp => hL.e _ _ _ elt (E.ec.blk s H scope cl Cc fp)) (fold_no (by simpa using h4) _)) fun D σ H q => ?_
              refine lc_read (fun i hi => (by have := h2 i hi; exact List.contains_iff_mem.mp this)) ?_
              have q3 : tE X.K g.nm W (stepE g C (lvN g C 39) sc (.ListComp elt [⟨tg, iter, ifs, 0⟩] scope lp)) σ H (fun x H1 => gName i x σ H1 D.nx) := rd q
              obtain ⟨rho, sm, h, rs, rl, rt⟩ := q3
              simp only [stepE, hc, if_true] at rt
              exact ⟨rho, sm, h, rs, rl, rt⟩
          | _ :: _ :: _ => exact nog (by funext sm h; rw [ev_e]; unfold stepE; split <;> first | rfl | (rename_i heq; cases heq))
      | _ => cases hl
end
end Mn
end

section
set_option autoImplicit false
set_option linter.all false
set_option maxRecDepth 100000
set_option maxHeartbeats 1000000
/-! statements: stores, loops -/
namespace Mn
open PySem PySem.Spec L2
theorem RF.putf {K : PySem.W.Frag} {nm : Nm} {H : Hp} {rho : List Addr} (hn : nm.attrs.Nodup) {x : Str} {k : Nat} (hx : idx x nm.attrs = some k) {z : MV} {v : V} (hv : RV K H rho z v) : ∀ {l : List (Nat × MV)} {t : List (Str × V)}, RF K nm H rho l t → RF K nm H rho (fput l k z) (putF x v t)
  | [], t, h => by
    unfold RF at h
    subst h
    have hk := idx_at hx
    have : nm.attr k = x := by
      unfold Nm.attr
      rw [List.getD_eq_getElem?_getD, hk]; rfl
    show RF K nm H rho [(k, z)] [(x, v)]
    unfold RF
    exact ⟨v, [], by rw [this], (List.getElem?_eq_some_iff.mp hk).1, hv, by unfold RF; rfl⟩
  | (j, y) :: r, t, h => by
    unfold RF at h
    obtain ⟨w, t', rfl, hj, rz, hr⟩ := h
    have ih := RF.putf hn hx hv hr
    have hk := idx_at hx
    have hat : nm.attr k = x := by
      unfold Nm.attr
      rw [List.getD_eq_getElem?_getD, hk]; rfl
    unfold fput
    by_cases e : j = k
    · subst e
      rw [if_pos rfl, hat]
      show RF K nm H rho _ (putF x v ((x, w) :: t'))
      unfold putF
      rw [if_pos rfl]
      unfold RF
      exact ⟨v, t', by rw [hat], hj, hv, hr⟩
    · rw [if_neg e]
      have hne : ¬ nm.attr j = x := by
        intro z
        apply e
        have e1 : nm.attrs[j]? = some (nm.attr j) := by
          unfold Nm.attr
          rw [List.getD_eq_getElem?_getD, List.getElem?_eq_getElem hj]; rfl
        rw [z] at e1
        obtain ⟨p1, q1⟩ := List.getElem?_eq_some_iff.mp e1
        obtain ⟨p2, q2⟩ := List.getElem?_eq_some_iff.mp hk
        exact (List.getElem_inj hn).mp (q1.trans q2.symm)
      unfold putF
      rw [if_neg hne]
      unfold RF
      exact ⟨w, _, rfl, hj, rz, ih⟩
section
variable {X : Cx} {nm : Nm}
/-- o[i] = v -/
def rSetM (K : PySem.W.Frag) (nm : Nm) : TSet := fun o i v H Q => ∃ rho h mo mi mv h', Rel K nm rho h H ∧ RV K H rho mo o ∧ RV K H rho mi i ∧ RV K H rho mv v ∧ setM h mo mi mv = some h' ∧ ∀ H', Ex K rho H rho H' → Rel K nm rho h' H' → Q H'
theorem set_m (hu : X.A.units + 65 < cLine) : PSet X (rSetM X.K nm) := by
  intro pins s σ H o i v ov iv u Q I ro ri rv ⟨rho, h, mo, mi, mv, h', rl, vo, vi, vv, e, q⟩
  unfold setM at e
  split at e
  · rename_i a
    split at e
    · rename_i xs ha
      split at e
      · rename_i k
        split at e
        · rename_i j hj
          cases e
          obtain ⟨p, vs, rfl, hp, h3, h4⟩ := rl.lst ha vo
          have hm : Mut (H p) := by rw [h3]; trivial
          refine set_list pins s σ H _ i v ov iv u Q I ro ri rv ⟨p, vs, k, j, rfl, vi.int, h3, by rw [← h4.length]; exact hj, ?_⟩
          exact q _ (Ex.write hm) (rl.put (o := .lst (xs.set j mv)) hp hm ⟨_, upd_same, (h4.set j vv).mono (Ex.write hm)⟩)
        · cases e
      · cases e
    · rename_i kvs ha
      split at e
      · rename_i w hw
        split at e
        · rename_i hl
          cases e
          obtain ⟨p, l, rfl, hp, h3, h4⟩ := rl.dk ha vo
          have hm : Mut (H p) := by rw [h3]; trivial
          refine set_dict (by omega) pins s σ H _ i v ov iv u Q I ro ri rv ⟨p, _, rfl, .inl ⟨l, w.k, h3, k1_ok hw vi, by rw [← h4.len, ← lim_eq]; exact hl, rfl⟩, ?_⟩
          exact q _ (Ex.write hm) (rl.put (o := .dK (dput kvs w mv)) hp hm ⟨_, upd_same, (h4.put (fun a b => k_inj) w vv).mono (Ex.write hm)⟩)
        · cases e
      · cases e
    · cases e
  · cases e
def rGetL (K : PySem.W.Frag) : V → V → Hp → VK → Prop := fun o i H Q => ∃ p xs k v, o = .ref p ∧ i = .int k ∧ SqL K H p xs ∧ atI xs k = some v ∧ Q v H
theorem get_list : PGet X (rGetL X.K) := by
  intro pins s σ H x y v u Q I rx ry h
  obtain ⟨p, xs, i, z, rfl, rfl, hq, he, q⟩ := h
  cases rx
  obtain ⟨t, rfl⟩ := ry
  obtain ⟨its, r, pl, hz⟩ := I.list hq
  obtain ⟨j, h1, h2, h3, h4, h5⟩ := atI_get he
  obtain ⟨w, ew, rw'⟩ := r.get h2
  have hl := r.length
  have hn := line63
  have fin : EP X pins σ Q w s := ⟨z, H, I, rw', q⟩
  by_cases h0 : 0 ≤ i
  · have hj : i.toNat = j := by
      rw [seqIndex_of h0 h5] at h1
      exact Option.some.inj h1
    exact wpAny_getItem_list pl.isList h0 (by omega) (by rw [hj]; simpa using ew) fin
  · have hj : (i + (its.toArray.size : Int)).toNat = j := by
      rw [seqIndex_neg (by omega) h4] at h1
      rw [List.size_toArray, ← hl]
      exact Option.some.inj h1
    exact wpAny_getItem_list_neg pl.isList (by omega) (by rw [List.size_toArray] <;> omega) (by omega) (by rw [hj]; simpa using ew) fin
end
section
variable {g : GS} {C : CallS} {lv : Nat} {sc : SC} {W : WX} {X : Cx} {M : LvS}
theorem ss_attr {o e : Expr} {f : Str} {p pos : Pos} (E : SX g C lv sc W X) : PS X (.Assign [.Attribute o f p] e pos) (tS X.K g.nm W (stepS g (ev g C) M sc (.Assign [.Attribute o f p] e pos))) := by
  refine psI (ps_fld (se_ev E.ec o) (se_ev E.ec e) (sw_other fun _ _ h => by cases h)) fun D σ H ⟨rho, sm, h, rs, rl, rt⟩ => ?_
  simp only [stepS] at rt
  refine ⟨rho, sm, h, rs, rl, RT.imp (RTS.then' rt rs) fun y H1 ⟨r1, h1, b, _, e1, rl1, ra, rt1⟩ => ?_⟩
  refine ⟨r1, sm, h1, rs.ex e1, rl1, RT.imp (RTS.then' rt1 (rs.ex e1)) fun x H2 ⟨r2, h2, a, _, e2, rl2, rx, rt2⟩ => ?_⟩
  split at rt2
  · rename_i i
    split at rt2
    · rename_i c fs k hi hk
      split at rt2
      · rename_i hc
        obtain ⟨y', hy, hn, hx⟩ := GS.own_ok hc.2
        obtain ⟨_, hC, hA⟩ := E.ec.gok.cls c y' hy hx
        obtain ⟨q, dx, l, rfl, hq, h3, h4⟩ := rl2.ins' hi rx
        have hm : Mut (H2 q) := by rw [h3]; trivial
        have hlen : ∀ {fs : List (Nat × MV)} {l : List (Str × V)}, RF X.K g.nm H2 r2 fs l → fs.length = l.length := by
          intro fs
          induction fs with
          | nil => intro l h; unfold RF at h; subst h; rfl
          | cons p r ih =>
            obtain ⟨j, z⟩ := p
            intro l h
            unfold RF at h
            obtain ⟨v, t', rfl, _, _, hr⟩ := h
            simp [ih hr]
        rw [hn] at h3
        refine ⟨q, _, dx, l, rfl, h3, hC, hA f (idx_mem hk), by rw [← hlen h4]; exact hc.1, ?_⟩
        have hb := RV.mono e2 _ _ ra
        refine rt2 r2 _ σ (Ex.write hm) (rl2.put (o := .ins c (fput fs k b)) hq hm ⟨dx, _, by rw [hn]; exact upd_same, (h4.putf E.ec.gok.attrs hk hb).mono (Ex.write hm)⟩) (((rs.ex e1).ex e2).ex (Ex.write hm))
      · exact rt2.elim
    · exact rt2.elim
  · exact rt2.elim
theorem ss_sub {o i e : Expr} {p pos : Pos} (E : SX g C lv sc W X) : PS X (.Assign [.Subscript o i p] e pos) (tS X.K g.nm W (stepS g (ev g C) M sc (.Assign [.Subscript o i p] e pos))) := by
  cases hs : isSl i with
  | true => exact psN fun sm h => by simp only [stepS, hs]; rfl
  | false =>
  refine psI (ps_asg (se_ev E.ec e) (pg_sub (se_ev E.ec o) (se_ev E.ec i) (set_m (nm := g.nm) E.ec.hu) (fun v => by cases i <;> first | rfl | cases hs)) (show swapsWith e (some (.Subscript o i p)) pos.line X.env = pure false from sw_other (t := .Subscript o i p) fun _ _ h => by cases h) (by cases e <;> rfl)) fun D σ H ⟨rho, sm, h, rs, rl, rt⟩ => ?_
  simp only [stepS, hs] at rt
  refine ⟨rho, sm, h, rs, rl, RT.imp (RTS.then' rt rs) fun v H1 ⟨r1, h1, mv, _, e1, rl1, rv, rt1⟩ => ?_⟩
  refine ⟨r1, sm, h1, rs.ex e1, rl1, RT.imp (RTS.then' rt1 (rs.ex e1)) fun x H2 ⟨r2, h2, mx, _, e2, rl2, rx, rt2⟩ => ?_⟩
  refine ⟨r2, sm, h2, (rs.ex e1).ex e2, rl2, RT.imp (RTS.then' rt2 ((rs.ex e1).ex e2)) fun y H3 ⟨r3, h3, my, _, e3, rl3, ry, rt3⟩ => ?_⟩
  split at rt3
  · rename_i h4 hs
    exact ⟨r3, h3, mx, my, mv, h4, rl3, RV.mono e3 _ _ rx, ry, RV.mono (e2.trans e3) _ _ rv, hs, fun H' x1 x2 => rt3 r3 H' σ x1 x2 ((((rs.ex e1).ex e2).ex e3).ex x1)⟩
  · exact rt3.elim
theorem sw2_no {es : List Expr} {k : Nat} {p : Pos} {e : Expr} {env : Env} (h : ∀ es k p, e ≠ .Tuple es k p) : swappedStores [.Tuple es k p] e env = pure none := by
  cases e <;> first | rfl | exact absurd rfl (h _ _ _)
theorem ss_tuple {es : List Expr} {k : Nat} {e : Expr} {p pos : Pos} (E : SX g C lv sc W X) : PS X (.Assign [.Tuple es k p] e pos) (tS X.K g.nm W (stepS g (ev g C) M sc (.Assign [.Tuple es k p] e pos))) := by
  by_cases ht : ∃ a b c, e = .Tuple a b c
  · obtain ⟨a, b, c, rfl⟩ := ht
    exact psN fun sm h => rfl
  · have hne : ∀ a b c, e ≠ .Tuple a b c := fun a b c h => ht ⟨a, b, c, h⟩
    have hst : ∀ sm h, stepS g (ev g C) M sc (.Assign [.Tuple es k p] e pos) sm h = if isLc e then .err else ((ev g C).e sc e sm h).then' sm fun v h1 => match asg sc (.Tuple es k p) v sm with
        | some sm1 => .nx sm1 h1
        | none => .err := by
      intro sm h
      cases e <;> first | rfl | exact absurd rfl (hne _ _ _)
    cases hl : isLc e with
    | true => exact psN fun sm h => by rw [hst, hl]; rfl
    | false =>
      refine psI (ps_asg (se_ev E.ec e) (sg_ok E.ec) (show swapsWith e (some (.Tuple es k p)) pos.line X.env = pure false from sw_no hl) (sw2_no hne)) fun D σ H ⟨rho, sm, h, rs, rl, rt⟩ => ?_
      rw [hst, hl] at rt
      refine ⟨rho, sm, h, rs, rl, RT.imp (RTS.then' rt rs) fun v H1 ⟨r1, h1, mv, _, e1, rl1, rv, rt1⟩ => ?_⟩
      split at rt1
      · rename_i sm1 hs
        exact ⟨r1, sm, mv, sm1, rs.ex e1, rv, hs, fun σ2 rs2 _ => rt1 r1 H1 σ2 Ex.refl rl1 rs2⟩
      · exact rt1.elim
theorem ss_aug {o i e : Expr} {op : Operator} {p pos : Pos} (E : SX g C lv sc W X) : PS X (.AugAssign (.Subscript o i p) op e pos) (tS X.K g.nm W (stepS g (ev g C) M sc (.AugAssign (.Subscript o i p) op e pos))) := by
  cases hs : (isSl i || !isAdd op) with
  | true => exact psN fun sm h => by simp only [stepS, hs]; rfl
  | false =>
    simp only [Bool.or_eq_false_iff, Bool.not_eq_false'] at hs
    obtain rfl : op = .Add := by cases op <;> first | rfl | (cases hs.2)
    have hs' : (isSl i || !isAdd .Add) = false := by rw [hs.1]; rfl
    refine psI (ps_augS (se_ev E.ec o) (se_ev E.ec i) get_list (se_ev E.ec e) ip_add (set_m (nm := g.nm) E.ec.hu) (by intros; cases i <;> first | rfl | cases hs.1)) fun D σ H ⟨rho, sm, h, rs, rl, rt⟩ => ?_
    simp only [stepS, hs'] at rt
    refine ⟨rho, sm, h, rs, rl, RT.imp (RTS.then' rt rs) fun x H1 ⟨r1, h1, mx, _, e1, rl1, rx, rt1⟩ => ?_⟩
    refine ⟨r1, sm, h1, rs.ex e1, rl1, RT.imp (RTS.then' rt1 (rs.ex e1)) fun y H2 ⟨r2, h2, my, _, e2, rl2, ry, rt2⟩ => ?_⟩
    have rs2 := (rs.ex e1).ex e2
    have rx2 := RV.mono e2 _ _ rx
    split at rt2
    · rename_i old ho
      unfold gtM at ho
      split at ho
      · rename_i a
        split at ho
        · rename_i xs ha
          split at ho
          · rename_i k
            obtain ⟨q, vs, rfl, hq, h3, h4⟩ := rl2.lst ha rx2
            obtain ⟨v, h5, h6⟩ := atI_ok ho h4
            refine ⟨q, vs, _, v, rfl, RV.int ry, SqL.of h3, h5, ?_⟩
            refine ⟨r2, sm, h2, rs2, rl2, RT.imp (RTS.then' rt2 rs2) fun z H3 ⟨r3, h3, mz, _, e3, rl3, rz, rt3⟩ => ?_⟩
            split at rt3
            · rename_i p1 q1
              split at rt3
              · rename_i h4 hs
                refine ⟨_, _, h6.int, RV.int rz, r3, h3, _, _, _, h4, rl3, RV.mono e3 _ _ rx2, RV.mono e3 _ _ ry, by unfold RV; rfl, hs, fun H' x1 x2 => rt3 r3 H' σ x1 x2 ((rs2.ex e3).ex x1)⟩
              · exact rt3.elim
            · exact rt3.elim
          · cases ho
        · cases ho
      · cases ho
    · exact rt2.elim
theorem ss_if {t : Expr} {a b : List Stmt} {pos : Pos} (hM : LsOk g C lv M) (E : SX g C lv sc W X) : PS X (.If t a b pos) (tS X.K g.nm W (stepS g (ev g C) M sc (.If t a b pos))) := by
  refine psI (ps_if (st_ev E.ec t) (ss_body hM E a) (ss_body hM E b)) fun D σ H ⟨rho, sm, h, rs, rl, rt⟩ => ?_
  simp only [stepS] at rt
  refine ⟨rho, sm, h, rs, rl, RT.imp (RTS.then' rt rs) fun k H1 ⟨r1, h1, a, _, e1, rl1, ra, rt1⟩ => ?_⟩
  cases (show a = k from ra)
  cases k with
  | true => exact ⟨r1, sm, h1, rs.ex e1, rl1, rt1⟩
  | false => exact ⟨r1, sm, h1, rs.ex e1, rl1, rt1⟩
theorem ss_while {t : Expr} {b : List Stmt} {pos : Pos} (hM : LsOk g C lv M) (E : SX g C lv sc W X) : PS X (.While t b [] pos) (tS X.K g.nm W (stepS g (ev g C) M sc (.While t b [] pos))) := by
  refine psI (ps_while E.own (st_ev E.ec t) (ss_body hM E b)) fun D σ H ⟨rho, sm, h, rs, rl, rt⟩ => ?_
  simp only [stepS] at rt
  refine ⟨fun m σ' H' => ∃ rho' sm' h', Ex X.K rho H rho' H' ∧ RS X.K H' rho' sm' σ' ∧ Rel X.K g.nm rho' h' H' ∧ RTS X.K g.nm W D rho' H' (whM ((ev g C).t sc t) (exB (M sc) b) m sm' h'), ⟨whFuel, rho, sm, h, Ex.refl, rs, rl, rt⟩, ?_⟩
  rintro m σ' H' ⟨rho', sm', h', e0, rs', rl', rt'⟩
  cases m with
  | zero => exact rt'.elim
  | succ m =>
    unfold whM at rt'
    refine ⟨rho', sm', h', rs', rl', RT.imp (RTS.then' rt' rs') fun k H1 ⟨r1, h1, a, _, e1, rl1, ra, rt1⟩ => ?_⟩
    cases (show a = k from ra)
    cases k with
    | false => exact rt1 r1 H1 σ' Ex.refl rl1 (rs'.ex e1)
    | true =>
      refine ⟨fun σ' H' => ∃ rho' sm' h', Ex X.K rho H rho' H' ∧ RS X.K H' rho' sm' σ' ∧ Rel X.K g.nm rho' h' H' ∧ RTS X.K g.nm W D rho' H' (whM ((ev g C).t sc t) (exB (M sc) b) m sm' h'), fun σ2 H2 hN => ⟨m, Nat.lt_succ_self _, hN⟩, ?_⟩
      refine ⟨r1, sm', h1, rs'.ex e1, rl1, ?_⟩
      simp only [if_true] at rt1
      have ee := e0.trans e1
      cases hq : exB (M sc) b sm' h1 with
      | nx s2 h2 => rw [hq] at rt1; exact fun r2 H2 σ2 x1 x2 x3 => ⟨r2, s2, h2, ee.trans x1, x3, x2, RTS.up rt1 x1⟩
      | ct s2 h2 => rw [hq] at rt1; exact fun r2 H2 σ2 x1 x2 x3 => ⟨r2, s2, h2, ee.trans x1, x3, x2, RTS.up rt1 x1⟩
      | bk s2 h2 => rw [hq] at rt1; exact rt1
      | rt v h2 => rw [hq] at rt1; exact rt1
      | ex x s2 h2 => rw [hq] at rt1; exact rt1
      | err => rw [hq] at rt1; exact rt1
theorem ss_for {tg iter : Expr} {b : List Stmt} {pos : Pos} (hM : LsOk g C lv M) (E : SX g C lv sc W X) : PS X (.For tg iter b [] pos) (tS X.K g.nm W (stepS g (ev g C) M sc (.For tg iter b [] pos))) := by
  cases hs : isSet iter with
  | true => exact psN fun sm h => by simp only [stepS, hs]; rfl
  | false =>
    refine psI (ps_for E.own E.ec.calm (si_it (lv_ok deepE) E.ec) (sg_ok E.ec) (ss_body hM E b) (fold_no hs _)) fun D σ H ⟨rho, sm, h, rs, rl, rt⟩ => ?_
    simp only [stepS, hs] at rt
    refine ⟨rho, sm, h, rs, rl, RT.imp (RTS.then' rt rs) fun J H1 ⟨r1, h1, it, _, e1, rl1, ir, rt1⟩ => ?_⟩
    refine ⟨fun i m σ' H' => ∃ rho' sm' h', Ex X.K r1 H1 rho' H' ∧ RS X.K H' rho' sm' σ' ∧ Rel X.K g.nm rho' h' H' ∧ RTS X.K g.nm W D rho' H' (forM sc tg it (exB (M sc) b) m i sm' h'), ⟨it.fuel h1, r1, sm, h1, Ex.refl, rs.ex e1, rl1, rt1⟩, ?_⟩
    rintro i m σ' H' ⟨rho', sm', h', e0, rs', rl', rt'⟩
    cases m with
    | zero => exact rt'.elim
    | succ m =>
      unfold forM at rt'
      obtain ⟨j1, j2⟩ := ir rho' H' h' e0 rl' i
      split at rt'
      · exact rt'.elim
      · rename_i hat
        exact .inl ⟨j1 hat, rt' rho' H' σ' Ex.refl rl' rs'⟩
      · rename_i x hat
        obtain ⟨j3, j4⟩ := j2 x hat
        refine .inr ⟨j3, fun σ' H' => ∃ rho' sm' h', Ex X.K r1 H1 rho' H' ∧ RS X.K H' rho' sm' σ' ∧ Rel X.K g.nm rho' h' H' ∧ RTS X.K g.nm W D rho' H' (forM sc tg it (exB (M sc) b) m (i + 1) sm' h'), fun σ2 H2 hN => ⟨m, Nat.lt_succ_self _, hN⟩, fun v H'' hy => ?_⟩
        obtain ⟨eH, rv⟩ := j4 v H'' hy
        subst eH
        split at rt'
        · exact rt'.elim
        · rename_i sm2 hsm
          refine ⟨rho', sm', x, sm2, rs', rv, hsm, fun σ2 rs2 _ => ⟨rho', sm2, h', rs2, rl', ?_⟩⟩
          cases hq : exB (M sc) b sm2 h' with
          | nx s2 h2 => rw [hq] at rt'; exact fun r2 H2 σ2 x1 x2 x3 => ⟨r2, s2, h2, e0.trans x1, x3, x2, RTS.up rt' x1⟩
          | ct s2 h2 => rw [hq] at rt'; exact fun r2 H2 σ2 x1 x2 x3 => ⟨r2, s2, h2, e0.trans x1, x3, x2, RTS.up rt' x1⟩
          | bk s2 h2 => rw [hq] at rt'; exact rt'
          | rt v h2 => rw [hq] at rt'; exact rt'
          | ex x s2 h2 => rw [hq] at rt'; exact rt'
          | err => rw [hq] at rt'; exact rt'
end
end Mn
end

section
set_option autoImplicit false
set_option linter.all false
set_option maxRecDepth 100000
set_option maxHeartbeats 1000000
/-! statements: raise, try; all together -/
namespace Mn
open PySem PySem.Spec L2
/-- X(e), an exception class of one's own -/
theorem pmk5G {X : Cx} {C : Addr} {bmB : List Value} {B newId initId : String} {x : Str} {e : Expr} {ta : TE} {p pos : Pos} (F : ExcBaseFacts B newId initId bmB) (q : PySem.W.excIn X.K C bmB newId = true) (gC : X.mg x = some (.ref C)) (kC : PySem.W.keepIn X.K (.ref C) = true) (r : Raises X (.ref C)) (hg : Gl X x)
    (he : PE X e ta) (hs : starEach [e] X.env = (false, eval e X.env) :: starEach [] X.env) (hdb : (x == ("__debug__" : Str)) = false) :
    L2H.PMk5 X (.Call (.Name x p) [e] [] pos) (fun σ H Q => ta σ H fun _ H1 => Q (.ref C) none H1) := by
  intro pins s σ H Q I h
  refine wpAny_Call_Name_kw (ld_glob I hg gC ?_ hdb)
  refine PySem.W.callWith_K (h₀ := X.base) I.ok.mod.kin kC ?_ hs (by rfl)
  rw [hs]
  show wpAny _ _ (spliced ((false, eval e X.env) :: backTo pos (starEach [] X.env))) _ _ s
  refine Calls.spliced_cons (thn (he.run pins s σ H _ I h) fun u s1 ⟨v, H1, I1, r1, q1⟩ => ?_)
  refine Calls.spliced_nil ⟨I1.kIn, ?_⟩
  show wpAny _ _ (call (.ref C) [u]) _ _ _
  obtain ⟨bm, N, nm, qn, bs, hdct, sn, sub, ab, col, dd, k0, k1, k2, k3, k5, mN, hC, hN, hni, T⟩ := exc_obj I1.kIn q
  refine wpAny_call_exc_subT F T hC hN hni (fun h' e hm => ?_) (by show 1 ≤ sizeLine; rw [sizeLine_eq]; omega)
  exact L2H.mk_of5 I1 hm r q1 (I1.hok.gone hm.new)
section
variable {g : GS} {C : CallS} {lv : Nat} {sc : SC} {W : WX} {X : Cx} {M : LvS}
theorem isExc_ok {c : Nat} (h : isExc g c = true) : ∃ x l, g.nm.clss[c]? = some x ∧ g.nm.cls c = x ∧ g.excs.lookup c = some l := by
  unfold isExc at h
  simp only [Bool.and_eq_true, decide_eq_true_eq, Option.isSome_iff_exists] at h
  obtain ⟨h1, l, h2⟩ := h
  refine ⟨g.nm.clss[c], l, List.getElem?_eq_getElem h1, ?_, h2⟩
  unfold Nm.cls
  rw [List.getD_eq_getElem?_getD, List.getElem?_eq_getElem h1]; rfl
theorem exc_x {c : Nat} {x : Str} (h : isExc g c = true) (hc : g.cls? x = some c) : ∃ l, g.nm.clss[c]? = some x ∧ g.nm.cls c = x ∧ g.excs.lookup c = some l := by
  obtain ⟨y, l, h1, h2, h3⟩ := isExc_ok h
  have := idx_at hc
  rw [h1] at this
  cases this
  exact ⟨l, h1, h2, h3⟩
theorem pmk_x {c : Nat} {x : Str} {e : Expr} {p pos : Pos} (G : GOk g C lv X.prog X.w X.K X.mg X.base) (h : isExc g c = true) (hc : g.cls? x = some c) (hg : Gl X x) (ho : odd x = false) (hp : plainA [e] = true) {ta : TE} (he : PE X e ta) :
    L2H.PMk5 X (.Call (.Name x p) [e] [] pos) (fun σ H Q => ta σ H fun _ H1 => Q (.ref (He.ga X.K (g.nm.cls c))) none H1) := by
  obtain ⟨l, h1, h2, h3⟩ := exc_x h hc
  obtain ⟨a1, a2, a3, a4, a5⟩ := G.exc c x l h1 h3
  rw [h2]
  exact pmk5G F.excBase_ValueError a2 a1 a3 (raises_own a4 a5) hg he (plain_star hp _) (odd_dbg ho)
theorem rx_new {K : PySem.W.Frag} {nm : Nm} {H : Hp} {rho : List Addr} {c : Nat} : RX K nm H rho ⟨c, []⟩ (.ref (He.ga K (nm.cls c))) none := ⟨rfl, fun h => absurd rfl h⟩
theorem ss_raise {x : Str} {e : Expr} {p pos pos2 : Pos} (E : SX g C lv sc W X) : PS X (.Raise (some (.Call (.Name x p) [e] [] pos)) none pos2) (tS X.K g.nm W (stepS g (ev g C) M sc (.Raise (some (.Call (.Name x p) [e] [] pos)) none pos2))) := by
  cases hc : g.cls? x with
  | none => exact psN fun sm h => by simp only [stepS, hc]
  | some c =>
    cases hh : (sc.gl x && (isExc g c && plainA [e])) with
    | false => exact psN fun sm h => by simp only [stepS, hc, hh]; rfl
    | true =>
      have h2 := hh
      simp only [Bool.and_eq_true] at h2
      obtain ⟨hg, hx, hp⟩ := h2
      refine psI (L2N.ps_raise E.ec.calm E.ec.tkN (pmk_x E.ec.gok hx hc (E.ec.gl hg) (gl_of hg).1 hp (se_ev E.ec e)).pmk) fun D σ H ⟨rho, sm, h, rs, rl, rt⟩ => ?_
      simp only [stepS, hc, hh, if_true] at rt
      refine ⟨rho, sm, h, rs, rl, RT.imp (RTS.then' rt rs) fun v H1 ⟨r1, h1, mv, _, e1, rl1, rv, rt1⟩ => ?_⟩
      exact rt1 r1 H1 σ _ _ Ex.refl rl1 (rs.ex e1) rx_new
/-! ### try -/
def tSim : Sim → TS
  | .rt v => fun D σ H => ∀ v', (∀ K rho, RV K H rho v v') → D.rt v' H
  | .ct => fun D σ H => D.ct σ H
  | .ps => fun D σ H => D.nx σ H
theorem sim_ok {suite : List Stmt} {s : Sim} (h : simS suite = some s) (Y : Cx) : ∃ b r, suite = b :: r ∧ PSs Y suite (tSim s) := by
  unfold simS at h
  split at h
  · cases h
    exact ⟨_, _, rfl, ⟨fun pins s σ H D I q => (pss_cons (ps_ret pe_bl) pss_nil).run pins s σ H D I (q _ fun _ _ => by unfold RV; rfl)⟩⟩
  · cases h
    exact ⟨_, _, rfl, ⟨fun pins s σ H D I q => (pss_cons (ps_ret pe_non) pss_nil).run pins s σ H D I (q _ fun _ _ => by unfold RV; rfl)⟩⟩
  · cases h
    exact ⟨_, _, rfl, ⟨fun pins s σ H D I q => (pss_cons ps_continue pss_nil).run pins s σ H D I q⟩⟩
  · cases h
    exact ⟨_, _, rfl, ⟨fun pins s σ H D I q => (pss_cons ps_pass pss_nil).run pins s σ H D I q⟩⟩
  · cases h
theorem isA_ok {e : MX} {d : Nat} {b : Bool} {K : PySem.W.Frag} {H : Hp} {rho : List Addr} {Cv : Value} {dd : Option Addr} {P : Program} {w : World} {mg : Str → Option Value} {base : Heap} (G : GOk g C lv P w K mg base) (hd : isExc g d = true) (h : isA g e.cls d = some b) (r : RX K g.nm H rho e Cv dd) :
    PySem.W.exmOne K Cv (.ref (He.ga K (g.nm.cls d))) = some b := by
  unfold isA at h
  split at h
  · rename_i hl
    cases hq : g.excs.lookup e.cls with
    | none => rw [hq] at h; cases h
    | some l =>
      rw [hq] at h
      cases h
      obtain ⟨y, l', h1, h2, h3⟩ := isExc_ok hd
      rw [r.1, h2]
      have hx : g.nm.cls e.cls = g.nm.clss[e.cls] := by
        unfold Nm.cls
        rw [List.getD_eq_getElem?_getD, List.getElem?_eq_getElem hl]; rfl
      rw [hx]
      exact G.exm e.cls d _ y l l' (List.getElem?_eq_getElem hl) h1 hq h3
  · cases h
theorem names_x {d : Nat} {x : Str} (E : EC g C lv sc W X) (hx : isExc g d = true) (hd : g.cls? x = some d) (hg : sc.gl x = true) : Names X x (.ref (He.ga X.K (g.nm.cls d))) := by
  obtain ⟨l, h1, h2, h3⟩ := exc_x hx hd
  rw [h2]
  exact ⟨E.gl hg, odd_dbg (gl_of hg).1, .inl (E.gok.exc d x l h1 h3).1⟩
/-- the body of a try -/
theorem SX.tr {W' : WX} {pn : List (Addr × Obj)} {xe : Value → Shared → Prop} {md : Bool} (E : SX g C lv sc W X) (tN : L2N.Takes (X.tr pn xe) W') (t : md = false → L2.Takes (X.tr pn xe) W') (o : PassesOwn (model X.prog X.w) X.A X.env xe) : SX g C lv { sc with md := md, tp := false } W' (X.tr pn xe) where
  ec := { nN := E.ec.nN, nd := E.ec.nd, scope := E.ec.scope, calm := E.ec.calm, fn := E.ec.fn, room := E.ec.room, tkN := tN, tk := t, gok := E.ec.gok }
  hs := E.hs
  hf := E.hf
  own := o
  hpa := fun h => by cases h
theorem ss_try_sim {x : Str} {body suite : List Stmt} {p pos pos' : Pos} {d : Nat} {s : Sim} (hM : LsOk g C lv M) (E : SX g C lv sc W X) (hd : g.cls? x = some d) (hg : sc.gl x = true) (hx : isExc g d = true) (hm : sc.md = false) (hs : simS suite = some s) :
    PS X (.Try body [.ExceptHandler (some (.Name x p)) none suite pos'] [] [] pos) (tS X.K g.nm W fun sm h => match exB (M { sc with tp := false }) body sm h with
          | .ex e sm1 h1 => match isA g e.cls d with
            | some true => match s with
              | .rt v => .rt v h1
              | .ct => .ct sm1 h1
              | .ps => .nx sm1 h1
            | some false => .ex e sm1 h1
            | none => .err
          | x => x) := by
  obtain ⟨b₀, r, rfl, _⟩ := sim_ok hs X
  have hsc : ({ sc with tp := false } : SC) = { sc with md := false, tp := false } := by cases sc; cases hm; rfl
  refine psI (ps_try_only (tb := fun W' => tS X.K g.nm W' (exB (M { sc with tp := false }) body)) (ts := fun a cls d => tSim s) E.hs E.hf (names_x E.ec hx hd hg) (E.ec.tk hm) (fun W' pn xe tk o => ?_) fun a oe cls d pn _ _ => ?_) fun D σ H ⟨rho, sm, h, rs, rl, rt⟩ => ?_
  · rw [hsc]
    exact ss_body hM (E.tr (takesN tk) (fun _ => tk) o) body
  · obtain ⟨_, _, _, hp⟩ := sim_ok hs (X.suite a ((a, oe) :: pn))
    exact hp
  · refine ⟨rho, sm, h, rs, rl, ?_⟩
    dsimp only at rt
    cases hq : exB (M { sc with tp := false }) body sm h with
    | nx s2 h2 => rw [hq] at rt; exact rt
    | ct s2 h2 => rw [hq] at rt; exact rt
    | bk s2 h2 => rw [hq] at rt; exact rt
    | rt v h2 => rw [hq] at rt; exact rt
    | err => rw [hq] at rt; exact rt
    | ex e s2 h2 =>
      rw [hq] at rt
      dsimp only at rt
      intro r1 H1 σ1 Cv dd x1 x2 x3 x4
      cases hi : isA g e.cls d with
      | none => rw [hi] at rt; exact rt.elim
      | some b =>
        rw [hi] at rt
        refine ⟨b, isA_ok E.ec.gok hx hi x4, fun hb a _ => ?_, fun hb => ?_⟩
        · subst hb
          cases s with
          | rt v => exact fun v' hv => rt r1 H1 v' x1 x2 (hv _ _)
          | ct => exact rt r1 H1 σ1 x1 x2 x3
          | ps => exact rt r1 H1 σ1 x1 x2 x3
        · subst hb
          exact rt r1 H1 σ1 Cv dd x1 x2 x3 x4
theorem ss_try_from {x y m : Str} {body : List Stmt} {p p1 p2 p3 p4 p5 p6 pos : Pos} {k1 k2 : Nat} {d c : Nat} (hM : LsOk g C lv M) (E : SX g C lv sc W X) (hd : g.cls? x = some d) (hg : sc.gl x = true) (hx : isExc g d = true) (hm : sc.md = false) (ht : sc.tp = true)
    (hc : g.cls? y = some c) (hgy : sc.gl y = true) (hy : isExc g c = true) :
    PS X (.Try body [.ExceptHandler (some (.Name x p)) none [.Raise (some (.Call (.Name y p1) [.Constant (.str m) k1 p2] [] p3)) (some (.Constant .none k2 p4)) p5] p6] [] [] pos) (tS X.K g.nm W fun sm h => match exB (M { sc with md := true, tp := false }) body sm h with
              | .ex e sm1 h1 => match isA g e.cls d with
                | some true => .ex ⟨c, []⟩ sm1 h1
                | some false => .ex e sm1 h1
                | none => .err
              | x => x) := by
  refine psI (L2H.ps_try_onlyX (tb := fun W' => tS X.K g.nm W' (exB (M { sc with md := true, tp := false }) body)) (ts := fun a cls dd => fun D σ H => W (.ref (He.ga X.K (g.nm.cls c))) none σ H) E.hs E.hf (names_x E.ec hx hd hg) (E.hpa ht) (E.ec.tk hm) (fun W' pn xe tk _ o => ?_) fun a oe cls dd pn _ _ tk hot => ?_) fun D σ H ⟨rho, sm, h, rs, rl, rt⟩ => ?_
  · exact ss_body hM (E.tr tk (fun h => by cases h) o) body
  · exact ⟨fun pins s σ H D I q => (pss_cons (L2H.ps_raiseHN hot tk (pmk_x (X := L2H.suiteX X a ((a, oe) :: pn)) E.ec.gok hy hc (E.ec.gl hgy) (gl_of hgy).1 rfl pe_str)) pss_nil).run pins s σ H D I q⟩
  · refine ⟨rho, sm, h, rs, rl, ?_⟩
    dsimp only at rt
    cases hq : exB (M { sc with md := true, tp := false }) body sm h with
    | nx s2 h2 => rw [hq] at rt; exact rt
    | ct s2 h2 => rw [hq] at rt; exact rt
    | bk s2 h2 => rw [hq] at rt; exact rt
    | rt v h2 => rw [hq] at rt; exact rt
    | err => rw [hq] at rt; exact rt
    | ex e s2 h2 =>
      rw [hq] at rt
      dsimp only at rt
      intro r1 H1 σ1 Cv dd x1 x2 x3 x4
      cases hi : isA g e.cls d with
      | none => rw [hi] at rt; exact rt.elim
      | some b =>
        rw [hi] at rt
        refine ⟨b, isA_ok E.ec.gok hx hi x4, fun hb a _ => ?_, fun hb => ?_⟩
        · subst hb
          exact rt r1 H1 σ1 _ _ x1 x2 x3 rx_new
        · subst hb
          exact rt r1 H1 σ1 Cv dd x1 x2 x3 x4
theorem ss_try {x : Str} {body suite : List Stmt} {p pos pos' : Pos} (hM : LsOk g C lv M) (E : SX g C lv sc W X) :
    PS X (.Try body [.ExceptHandler (some (.Name x p)) none suite pos'] [] [] pos) (tS X.K g.nm W (stepS g (ev g C) M sc (.Try body [.ExceptHandler (some (.Name x p)) none suite pos'] [] [] pos))) := by
  cases hd : g.cls? x with
  | none => exact psN fun sm h => by simp only [stepS, hd]
  | some d =>
    cases hh : (sc.gl x && (isExc g d && !sc.md)) with
    | false => exact psN fun sm h => by simp only [stepS, hd, hh]; rfl
    | true =>
      have h2 := hh
      simp only [Bool.and_eq_true, Bool.not_eq_true'] at h2
      obtain ⟨hg, hx, hm⟩ := h2
      cases hf : fromS suite with
      | some y =>
        cases hc : g.cls? y with
        | none => exact psN fun sm h => by simp only [stepS, hd, hh, if_true, hf, hc]
        | some c =>
          cases hk : (sc.gl y && (isExc g c && sc.tp)) with
          | false => exact psN fun sm h => by simp only [stepS, hd, hh, if_true, hf, hc, hk]; rfl
          | true =>
            have h3 := hk
            simp only [Bool.and_eq_true] at h3
            obtain ⟨p1, m, k1, p2, p3, k2, p4, p5, rfl⟩ : ∃ p1 m k1 p2 p3 k2 p4 p5, suite = [.Raise (some (.Call (.Name y p1) [.Constant (.str m) k1 p2] [] p3)) (some (.Constant .none k2 p4)) p5] := by
              unfold fromS at hf
              split at hf
              · cases hf; exact ⟨_, _, _, _, _, _, _, _, rfl⟩
              · cases hf
            refine psE (ss_try_from hM E hd hg hx hm h3.2.2 hc h3.1 h3.2.1) ?_
            funext sm h
            simp only [stepS, hd, hh, if_true, hf, hc, hk]
            all_goals rfl
      | none =>
        cases hs : simS suite with
        | none => exact psN fun sm h => by simp only [stepS, hd, hh, if_true, hf, hs]
        | some s =>
          refine psE (ss_try_sim hM E hd hg hx hm hs) ?_
          funext sm h
          simp only [stepS, hd, hh, if_true, hf, hs]
          cases s <;> rfl
theorem stepS_ok (hM : LsOk g C lv M) (E : SX g C lv sc W X) (st : Stmt) : PS X st (tS X.K g.nm W (stepS g (ev g C) M sc st)) := by
  unfold stepS
  split
  · exact ss_pass
  · exact ss_break
  · exact ss_cont
  · exact ss_expr (M := M) E
  · exact ss_retN
  · exact ss_ret (M := M) E
  · rename_i tg e pos
    cases tg with
    | Name x p => exact ss_name (M := M) E
    | Attribute o f p => exact ss_attr (M := M) E
    | Subscript o i p => exact ss_sub (M := M) E
    | Tuple es k p => exact ss_tuple (M := M) E
    | _ => exact psN fun sm h => rfl
  · exact ss_aug (M := M) E
  · exact ss_if hM E
  · exact ss_while hM E
  · exact ss_for hM E
  · exact ss_raise (M := M) E
  · exact ss_try hM E
  · exact psN fun sm h => rfl
theorem ls_ok : ∀ n : Nat, LsOk g C lv (lvS g (ev g C) n)
  | 0 => ⟨fun X sc W st E => psN fun sm h => rfl⟩
  | n + 1 => ⟨fun X sc W st E => stepS_ok (ls_ok n) E st⟩
end
end Mn
end

section
set_option autoImplicit false
set_option linter.all false
set_option maxRecDepth 100000
set_option maxHeartbeats 1000000
/-! binding of arguments -/
namespace Mn
open PySem PySem.Spec L2
def addD (S : List (Str × Value)) (p : Str × Value) : List (Str × Value) := if (S.lookup p.1).isNone then S ++ [p] else S
theorem lookup_zip_mem : ∀ {ps : List Str} {us : List Value} {x : Str}, x ∈ ps.take us.length → ((ps.zip us).lookup x).isNone = false
  | [], us, x, h => by simp at h
  | p :: ps, [], x, h => by simp at h
  | p :: ps, u :: us, x, h => by
    rw [List.zip_cons_cons, List.lookup_cons]
    cases hb : x == p with
    | true => rfl
    | false =>
      refine lookup_zip_mem ?_
      simp only [List.length_cons, List.take_succ_cons, List.mem_cons] at h
      rcases h with h | h
      · rw [h] at hb; simp at hb
      · exact h
theorem lookup_none_of {S : List (Str × Value)} {x : Str} (h : x ∉ S.map (·.1)) : (S.lookup x).isNone = true := by
  induction S with
  | nil => rfl
  | cons p r ih =>
    rw [List.lookup_cons]
    have h1 : x ≠ p.1 := fun e => h (by simp [e])
    have h2 : x ∉ r.map (·.1) := fun e => h (by simp only [List.map_cons, List.mem_cons]; exact .inr e)
    rw [show (x == p.1) = false from beq_eq_false_iff_ne.mpr h1]
    exact ih h2
theorem fold_skip : ∀ {L : List (Str × Value)} {S : List (Str × Value)}, (∀ p ∈ L, (S.lookup p.1).isNone = false) → L.foldl addD S = S
  | [], S, _ => rfl
  | p :: L, S, h => by
    rw [List.foldl_cons]
    have : addD S p = S := by unfold addD; rw [h p List.mem_cons_self]; rfl
    rw [this]
    exact fold_skip fun q hq => h q (List.mem_cons_of_mem _ hq)
theorem fold_add : ∀ {L : List (Str × Value)} {S : List (Str × Value)}, (L.map (·.1)).Nodup → (∀ p ∈ L, p.1 ∉ S.map (·.1)) → L.foldl addD S = S ++ L
  | [], S, _, _ => by simp
  | p :: L, S, hn, h => by
    rw [List.foldl_cons]
    have e : addD S p = S ++ [p] := by
      unfold addD
      rw [lookup_none_of (h p List.mem_cons_self)]
      rfl
    rw [List.map_cons, List.nodup_cons] at hn
    rw [e, fold_add hn.2 fun q hq => ?_, List.append_assoc]
    · rfl
    · rw [List.map_append, List.mem_append]
      rintro (z | z)
      · exact h q (List.mem_cons_of_mem _ hq) z
      · simp only [List.map_cons, List.map_nil, List.mem_singleton] at z
        exact hn.1 (z ▸ List.mem_map_of_mem hq)
theorem filt_zip : ∀ {ps : List Str} {ws : List Value}, ps.Nodup → ps.length = ws.length → ps.filterMap (fun n => ((ps.zip ws).lookup n).map fun v => (n, v)) = ps.zip ws := by
  have gen : ∀ {ps : List Str} {ws : List Value} {T : List (Str × Value)}, ps.Nodup → ps.length = ws.length → (∀ p ∈ ps, T.lookup p = (ps.zip ws).lookup p) → ps.filterMap (fun n => (T.lookup n).map fun v => (n, v)) = ps.zip ws := by
    intro ps
    induction ps with
    | nil => intro ws T _ _ _; rfl
    | cons p ps ih =>
      intro ws T hn hl hT
      cases ws with
      | nil => simp at hl
      | cons w ws =>
        rw [List.nodup_cons] at hn
        have h1 := hT p List.mem_cons_self
        rw [List.zip_cons_cons, List.lookup_cons, show (p == p) = true from by simp] at h1
        rw [List.filterMap_cons, h1]
        simp only [Option.map_some, List.zip_cons_cons]
        congr 1
        refine ih hn.2 (by simpa using hl) fun q hq => ?_
        rw [hT q (List.mem_cons_of_mem _ hq), List.zip_cons_cons, List.lookup_cons]
        rw [show (q == p) = false from beq_eq_false_iff_ne.mpr fun e => hn.1 (e ▸ hq)]
  intro ps ws hn hl
  exact gen hn hl fun _ _ => rfl
theorem slots_parts {A B C : List Str} {us I1 I2 : List Value} (hn : (A ++ (B ++ C)).Nodup) (h1 : us.length = A.length + B.length) (h2 : I1.length = B.length) (h3 : I2.length = C.length) :
    ((B ++ C).zip (I1 ++ I2)).foldl addD ((A ++ (B ++ C)).zip us) = (A ++ (B ++ C)).zip (us ++ I2) := by
  have e1 : (A ++ (B ++ C)).zip (us ++ I2) = (A ++ B).zip us ++ C.zip I2 := by
    rw [← List.append_assoc, List.zip_append (by rw [List.length_append, h1])]
  have e2 : (A ++ (B ++ C)).zip us = (A ++ B).zip us := by
    conv => lhs; rw [← List.append_assoc, ← List.append_nil us]
    rw [List.zip_append (by rw [List.length_append, h1]), List.zip_nil_right, List.append_nil]
  have hmap : ((A ++ B).zip us).map (·.1) = A ++ B := List.map_fst_zip (by rw [List.length_append, h1]; exact Nat.le_refl _)
  have hmapC : (C.zip I2).map (·.1) = C := List.map_fst_zip (by rw [h3]; exact Nat.le_refl _)
  have s1 : (B.zip I1).foldl addD ((A ++ B).zip us) = (A ++ B).zip us := by
    refine fold_skip fun p hp => ?_
    have hpB : p.1 ∈ B := (List.of_mem_zip (b := p.2) hp).1
    refine lookup_zip_mem ?_
    rw [h1, ← List.length_append, List.take_length]
    exact List.mem_append_right _ hpB
  rw [List.zip_append (by rw [h2]), List.foldl_append, e1, e2, s1, fold_add]
  · rw [hmapC]
    rw [← List.append_assoc] at hn
    exact (List.nodup_append.mp hn).2.1
  · intro p hp
    rw [hmap]
    have hpC : p.1 ∈ C := by rw [← hmapC]; exact List.mem_map_of_mem hp
    rw [← List.append_assoc] at hn
    exact fun z => (List.nodup_append.mp hn).2.2 _ z _ hpC rfl
theorem slots_ok {ps : List Str} {us its : List Value} (hn : ps.Nodup) (h1 : us.length ≤ ps.length) (h2 : its.length ≤ ps.length) (h3 : ps.length ≤ us.length + its.length) :
    ((ps.drop (ps.length - its.length)).zip its).foldl addD (ps.zip us) = ps.zip (us ++ its.drop (us.length + its.length - ps.length)) := by
  obtain ⟨A, R, rfl, hA⟩ : ∃ A R, ps = A ++ R ∧ A.length = ps.length - its.length := ⟨ps.take (ps.length - its.length), ps.drop (ps.length - its.length), (List.take_append_drop _ _).symm, by rw [List.length_take]; omega⟩
  rw [List.length_append] at hA h1 h2 h3
  have hR : R.length = its.length := by omega
  obtain ⟨B, C, rfl, hB⟩ : ∃ B C, R = B ++ C ∧ B.length = us.length - A.length := ⟨R.take (us.length - A.length), R.drop (us.length - A.length), (List.take_append_drop _ _).symm, by rw [List.length_take]; omega⟩
  obtain ⟨I1, I2, rfl, hI⟩ : ∃ I1 I2, its = I1 ++ I2 ∧ I1.length = B.length := ⟨its.take B.length, its.drop B.length, (List.take_append_drop _ _).symm, by rw [List.length_take]; rw [List.length_append] at hR; omega⟩
  simp only [List.length_append] at hR h1 h2 h3 hA
  have d1 : (A ++ (B ++ C)).drop ((A ++ (B ++ C)).length - (I1 ++ I2).length) = B ++ C := by
    rw [show (A ++ (B ++ C)).length - (I1 ++ I2).length = A.length by simp only [List.length_append]; omega]
    exact List.drop_left
  have d2 : (I1 ++ I2).drop (us.length + (I1 ++ I2).length - (A ++ (B ++ C)).length) = I2 := by
    rw [show us.length + (I1 ++ I2).length - (A ++ (B ++ C)).length = I1.length by simp only [List.length_append]; omega]
    exact List.drop_left
  rw [d1, d2]
  exact slots_parts hn (by omega) hI (by omega)
/-- only plain parameters -/
def plainP (p : Arguments) : Bool := match p with
  | ⟨[], _, none, [], _, none, _⟩ => true
  | _ => false
theorem forIn_addD {L : List (Str × Value)} {S : List (Str × Value)} : (forIn L S fun (p : Str × Value) (r : List (Str × Value)) => (if (r.lookup p.1).isNone = true then (pure (ForInStep.yield (r ++ [p])) : Sem _) else pure (ForInStep.yield r))) = pure (L.foldl addD S) := by
  induction L generalizing S with
  | nil => rfl
  | cons p L ih =>
    rw [List.forIn_cons, List.foldl_cons, ← ih]
    unfold addD
    by_cases h : (S.lookup p.1).isNone = true
    · rw [if_pos h, if_pos h]; rfl
    · rw [if_neg h, if_neg h]; rfl
theorem bind_plain {x qual : Str} {params : Arguments} {body : List Stmt} {scope : Scope} {dV kV doc pm cdv ct : Value} {an : Option Addr} {us : List Value} (hp : plainP params = true) :
    ∃ k : Option (Array Value) → Sem (List (Str × Value)), bindArgs (PySem.W.fnOf x qual params body scope dV kV doc pm an cdv ct) ⟨us, []⟩ = seqItems? dV >>= k ∧ ∀ o : Option (Array Value), (params.args.map (·.arg)).Nodup → us.length ≤ params.args.length → (o.getD #[]).size ≤ params.args.length → params.args.length ≤ us.length + (o.getD #[]).size →
      k o = pure ((params.args.map (·.arg)).zip (us ++ (o.getD #[]).toList.drop (us.length + (o.getD #[]).size - params.args.length))) := by
  obtain ⟨p1, p2, p3, p4, p5, p6, p7⟩ := params
  unfold plainP at hp
  split at hp
  case h_2 => cases hp
  rename_i heq
  cases heq
  refine ⟨_, rfl, fun o hn h1 h2 h3 => ?_⟩
  dsimp only at hn h1 h2 h3 ⊢
  generalize hits : (o.getD #[]).toList = its
  have hsz : (o.getD #[]).size = its.length := by rw [← hits, Array.length_toList]
  rw [hsz] at h2 h3 ⊢
  have g1 : ¬ us.length > (List.map (fun x => x.arg) p2).length := by rw [List.length_map]; omega
  have g2 : its.length - (List.map (fun x => x.arg) p2).length = 0 := by rw [List.length_map]; omega
  have g3 : (List.filter (fun n => (List.lookup n ((List.map (fun x => x.arg) p2).zip us)).isNone) (List.take ((List.map (fun x => x.arg) p2).length - its.length) (List.map (fun x => x.arg) p2))) = [] := by
    rw [List.filter_eq_nil_iff]
    intro x hx
    have : x ∈ (List.map (fun x => x.arg) p2).take us.length := by
      refine (List.take_subset_take_left _ ?_) hx
      rw [List.length_map]; omega
    rw [lookup_zip_mem this]
    simp
  simp only [PySem.W.fnOf, List.map_nil, List.nil_append, List.append_nil, Option.isNone_none, Bool.and_true, decide_eq_true_eq, g1, if_false, g2, List.drop_zero, g3, List.isEmpty_nil, Bool.not_true, Bool.false_eq_true]
  simp only [Prod.eta]
  rw [forIn_addD, slots_ok hn (by rw [List.length_map]; exact h1) (by rw [List.length_map]; exact h2) (by rw [List.length_map]; exact h3), pure_bind, List.forIn_nil, pure_bind]
  simp only [List.isEmpty_nil, Bool.not_true, Bool.false_eq_true, if_false]
  rw [List.length_map]
  congr 1
  exact filt_zip hn (by simp only [List.length_map, List.length_append, List.length_drop]; omega)
theorem binds_plain {K : PySem.W.Frag} {x qual : Str} {params : Arguments} {body : List Stmt} {scope : Scope} {dvs : List V} {f : Addr} {fd : FuncData} (F : FunD K x qual params body scope dvs [] f fd) (hp : plainP params = true) (hn : (params.args.map (·.arg)).Nodup) (hd : dvs.length ≤ params.args.length)
    (n : Nat) (h1 : n ≤ params.args.length) (h2 : params.args.length ≤ n + dvs.length) : ∃ ds, Vals (dvs.drop (n + dvs.length - params.args.length)) ds ∧ Binds K fd (params.args.map (·.arg)) ds := by
  by_cases hdv : dvs = []
  · subst hdv
    have e : n = params.args.length := by simp at h2; omega
    refine ⟨[], by simp; exact .nil, FunD.bindsN F fun kV doc pm an cdv ct us hl => ?_⟩
    rw [List.length_map] at hl
    obtain ⟨k, e1, e2⟩ := bind_plain (x := x) (qual := qual) (body := body) (scope := scope) (dV := .none) (kV := kV) (doc := doc) (pm := pm) (an := an) (cdv := cdv) (ct := ct) (us := us) hp
    rw [e1]
    have := e2 none hn (by omega) (by simp) (by simp; omega)
    show k none = _
    rw [this]
    simp
  · refine FunD.binds1 F n (n + dvs.length - params.args.length) hdv (by rw [List.length_map]; omega) fun T kV doc pm an cdv ct us its l1 l2 => ?_
    obtain ⟨k, e1, e2⟩ := bind_plain (x := x) (qual := qual) (body := body) (scope := scope) (dV := .ref T) (kV := kV) (doc := doc) (pm := pm) (an := an) (cdv := cdv) (ct := ct) (us := us) hp
    refine ⟨k, e1, ?_⟩
    have := e2 (some its.toArray) hn (by omega) (by simp; omega) (by simp; omega)
    rw [this]
    simp [l1, l2]
end Mn
end

section
set_option autoImplicit false
set_option linter.all false
set_option maxRecDepth 100000
set_option maxHeartbeats 1000000
/-! functions, calls of any depth -/
namespace Mn
open PySem PySem.Spec L2
def okDv : He.Dv → Bool
  | .non => true | .bl _ => true | .int _ => true | .str _ => true | _ => false
/-- what is asked of a def's text -/
def okF (f : FI) : Bool := plainP f.d.params && (C8.scC f.N f.ps f.d.scope && (f.d.kwd.isEmpty && (f.d.dfl.all okDv && decide (f.d.dfl.length ≤ f.d.params.args.length))))
theorem dv_ok {K : PySem.W.Frag} {H : Hp} {rho : List Addr} : ∀ {l : List He.Dv}, l.all okDv = true → RVs K H rho (l.map dvM) (l.map (He.Dv.v K))
  | [], _ => by unfold RVs; rfl
  | d :: l, h => by
    simp only [List.all_cons, Bool.and_eq_true] at h
    rw [List.map_cons, List.map_cons]
    refine RVs.mk ?_ (dv_ok h.2)
    cases d <;> first | (unfold dvM; unfold RV; rfl) | cases h.1
section
variable {g : GS} {C : CallS} {lv : Nat} {P : Program} {w : World} {K : PySem.W.Frag} {mg : Str → Option Value} {base : Heap}
theorem startM_ok {N : List Str} {xs : List MV} {vs : List V} {H : Hp} {rho : List Addr} (r : RVs K H rho xs vs) : RS K H rho (startM N xs) (L2.start N vs) := by
  refine ⟨by simp [startM, L2.start, r.length], fun i x hx => ?_⟩
  unfold startM at hx
  unfold L2.start
  by_cases hi : i < xs.length
  · rw [List.getElem?_append_left (by simpa using hi), List.getElem?_map] at hx
    cases he : xs[i]? with
    | none => rw [he] at hx; cases hx
    | some y =>
      rw [he] at hx
      cases hx
      obtain ⟨v, h1, h2⟩ := r.get he
      refine ⟨v, ?_, h2⟩
      rw [List.getElem?_append_left (by simp [← r.length, hi]), List.getElem?_map, h1]
      rfl
  · rw [List.getElem?_append_right (by simpa using hi)] at hx
    rw [List.getElem?_replicate] at hx
    split at hx <;> cases hx
/-- the context of a def's body -/
theorem sx_of {cn : Bool} {N : List Str} {qual : Str} {scope : Scope} {f : Addr} {cd : Value} {A : Around} {outer : List Env} {s : Shared} {H : Hp} {E : XK} (G : GOk g C lv P w K mg base) (nd : N.Nodup) (hr : Room (lv + 1) (A.deeper (PyProof.Rows.envOfC qual scope s.heap.objs.size f cd))) :
    SX g C lv ⟨N, scope, cn, true, true⟩ (fun c d _ H => E c d H) (cxOf (cxM P w cn) P w K mg base N qual scope f cd A outer s H E) where
  ec := { nN := rfl, nd := nd, scope := rfl, calm := rfl, fn := fun _ _ => rfl, room := hr, gok := G
          tkN := by
            cases cn with
            | true => exact L2N.takes_of rfl rfl rfl rfl
            | false => exact takesN (L2.takes_of rfl rfl rfl rfl)
          tk := fun h => by
            obtain rfl : cn = false := h
            exact L2.takes_of rfl rfl rfl rfl }
  hs := rfl
  hf := rfl
  own := passes_of rfl
  hpa := fun _ hd => L2H.passesAt_of rfl hd
theorem fn_ok {f : FI} {fd : FuncData} (G : GOk g C lv P w K mg base) (F : FunD K f.d.name f.d.qual f.d.params f.d.body f.d.scope (f.d.dvs K) (f.d.kws K) (He.fAd K f.at_) fd) (ho : okF f = true) :
    FnOk P w K mg base (cxM P w f.cn) (lv + 2) (He.fAd K f.at_) fd f.ps (spM K g.nm f.ps.length (runF g C f)) := by
  unfold okF at ho
  simp only [Bool.and_eq_true] at ho
  have S := C8.fnScope_by ho.2.1
  refine FunD.ok (k := lv + 1) F S (fun vs H Q E h => h.1) fun cdv A outer s H vs Q E hr hsp => ?_
  obtain ⟨hl, rho, h, xs, rv, rl, rt⟩ := hsp
  refine ⟨_, ss_body (ls_ok (g := g) (C := C) (lv := lv) deepS) (sx_of G S.nd hr) f.body, rho, startM f.N xs, h, startM_ok rv, rl, ?_⟩
  have rt' : RT K g.nm (relV' K) (fun C d _ H' => E C d H') [] Q rho H (match exB (lvS g (ev g C) deepS ⟨f.N, f.scope, f.cn, true, true⟩) f.body (startM f.N xs) h with
    | .nx _ h1 => .ok .non h1
    | .rt v h1 => .ok v h1
    | .ex e _ h1 => .ex e h1
    | _ => .err) := rt
  show RTS K g.nm _ _ rho H (exB (lvS g (ev g C) deepS ⟨f.N, f.scope, f.cn, true, true⟩) f.body (startM f.N xs) h)
  cases hq : exB (lvS g (ev g C) deepS ⟨f.N, f.scope, f.cn, true, true⟩) f.body (startM f.N xs) h with
  | nx s2 h2 => rw [hq] at rt'; exact fun r1 H1 σ1 x1 x2 x3 => rt' r1 H1 .non x1 x2 (by show RV _ _ _ _ _; unfold RV; rfl)
  | rt v h2 => rw [hq] at rt'; exact fun r1 H1 v1 x1 x2 x3 => rt' r1 H1 v1 x1 x2 x3
  | ex e s2 h2 => rw [hq] at rt'; exact fun r1 H1 σ1 C1 d1 x1 x2 x3 x4 => rt' r1 H1 C1 d1 x1 x2 x4
  | bk s2 h2 => rw [hq] at rt'; exact rt'.elim
  | ct s2 h2 => rw [hq] at rt'; exact rt'.elim
  | err => rw [hq] at rt'; exact rt'.elim
/-- what is known of the program, whatever is called how deep -/
structure GF (g : GS) (K : PySem.W.Frag) (mg : Str → Option Value) : Prop where
  fn : ∀ (i : Nat) (f : FI), g.funs[i]? = some f → okF f = true ∧ ∃ fd, FunD K f.d.name f.d.qual f.d.params f.d.body f.d.scope (f.d.dvs K) (f.d.kws K) (He.fAd K f.at_) fd
  glo : ∀ (i : Nat) (f : FI) (x : Str), g.funs[i]? = some f → f.at_ = (x, none) → mg x = some (.ref (He.fAd K f.at_))
  meth : ∀ (i : Nat) (f : FI) (x m : Str), g.funs[i]? = some f → f.at_ = (x, some m) → Meth K (He.ga K x) m (He.fAd K f.at_)
  cls : ∀ (c : Nat) (x : Str), g.nm.clss[c]? = some x → g.excs.lookup c = none → mg x = some (.ref (He.ga K x)) ∧ Cls K (He.ga K x) ∧ ∀ y ∈ g.nm.attrs, NoAttr K (He.ga K x) y
  mkc : ∀ (i : Nat) (f : FI) (x : Str) (c : Nat), g.funs[i]? = some f → f.at_ = (x, some initN) → g.nm.clss[c]? = some x → g.excs.lookup c = none → Mk K (He.ga K x) (He.fAd K f.at_)
  const : ∀ (x : Str) (v : MV), g.consts.lookup x = some v → ∃ u v', mg x = some u ∧ RelV v' u ∧ ∀ rho H, RV K H rho v v'
  free : ∀ x : Str, g.bltn x = true → mg x = none
  attrs : g.nm.attrs.Nodup
  exc : ∀ (c : Nat) (x : Str) (l : List Nat), g.nm.clss[c]? = some x → g.excs.lookup c = some l → mg x = some (.ref (He.ga K x)) ∧ PySem.W.excIn K (He.ga K x) He.veBase "ValueError.__new__" = true ∧ PySem.W.keepIn K (.ref (He.ga K x)) = true ∧
    PySem.W.subIn K (.ref (He.ga K x)) (.type "BaseException") = some true ∧ PySem.W.typeIn K (.ref (He.ga K x)) = some (.type "type")
  exm : ∀ (c d : Nat) (x y : Str) (l l' : List Nat), g.nm.clss[c]? = some x → g.nm.clss[d]? = some y → g.excs.lookup c = some l → g.excs.lookup d = some l' → PySem.W.exmOne K (.ref (He.ga K x)) (.ref (He.ga K y)) = some (l.contains d)
theorem gok_of (G : GF g K mg) (C : CallS) (lv : Nat) (h : ∀ (i : Nat) (f : FI) (fd : FuncData), g.funs[i]? = some f → okF f = true → FunD K f.d.name f.d.qual f.d.params f.d.body f.d.scope (f.d.dvs K) (f.d.kws K) (He.fAd K f.at_) fd → FnOk P w K mg base (cxM P w f.cn) lv (He.fAd K f.at_) fd f.ps (spM K g.nm f.ps.length (C i))) :
    GOk g C lv P w K mg base where
  fn := fun i f hi => by
    obtain ⟨ho, fd, F⟩ := G.fn i f hi
    refine ⟨fd, h i f fd hi ho F, F.kp, fun n h1 h2 => ?_⟩
    unfold okF at ho
    simp only [Bool.and_eq_true, decide_eq_true_eq] at ho
    obtain ⟨hp, hs, hk, hd, hl⟩ := ho
    have S := C8.fnScope_by hs
    have nd : f.ps.Nodup := by
      have := S.nd
      rw [← List.take_append_drop f.ps.length f.N, S.pre] at this
      exact (List.nodup_append.mp this).1
    have hkw : f.d.kws K = [] := by
      unfold He.DefD.kws
      cases hq : f.d.kwd with
      | nil => rfl
      | cons a b => rw [hq] at hk; cases hk
    rw [hkw] at F
    have el : (f.d.dvs K).length = f.dfl.length := by unfold He.DefD.dvs FI.dfl; simp
    have ep : f.d.params.args.length = f.ps.length := by unfold FI.ps; simp
    obtain ⟨ds, b1, b2⟩ := binds_plain F hp nd (by rw [el, ep]; unfold FI.dfl; simpa [ep] using hl) n (by rw [ep]; exact h1) (by rw [ep, el]; exact h2)
    refine ⟨_, ds, fun rho H => ?_, b1, b2⟩
    rw [el, ep]
    exact (dv_ok hd).drop _
  glo := G.glo
  meth := G.meth
  cls := G.cls
  mkc := G.mkc
  const := G.const
  free := G.free
  attrs := G.attrs
  exc := G.exc
  exm := G.exm
theorem call_ok (P : Program) (w : World) (base : Heap) (G : GF g K mg) : ∀ n : Nat, GOk g (callF g n) (2 * n) P w K mg base
  | 0 => gok_of G _ _ fun i f fd hi ho F => ⟨fun vs H Q E h => h.1, fun A outer s H args us vs Q E hr e0 hb r hsp => by
      obtain ⟨_, rho, h, xs, _, _, rt⟩ := hsp
      exact rt.elim⟩
  | n + 1 => gok_of G _ _ fun i f fd hi ho F => by
    have ih := call_ok P w base G n
    have e : callF g (n + 1) i = runF g (callF g n) f := by
      funext vs h
      simp only [callF, hi]
    rw [e]
    exact fn_ok ih F ho
end
end Mn
end

section
set_option autoImplicit false
set_option linter.all false
set_option maxRecDepth 100000
set_option maxHeartbeats 1000000
/-! from the head's facts to the law -/
namespace Mn
open PySem PySem.Spec L2
/-! ### the text of a program -/
def constOf : Stmt → List (Str × He.Dv)
  | .Assign [.Name x _] (.Constant (.int i) _ _) _ => [(x, .int i)]
  | .Assign [.Name x _] (.Constant (.str z) _ _) _ => [(x, .str z)]
  | _ => []
def dvOf (cs : List (Str × He.Dv)) : Expr → He.Dv
  | .Constant (.int i) _ _ => .int i
  | .Constant (.str z) _ _ => .str z
  | .Constant (.bool b) _ _ => .bl b
  | .Name x _ => (cs.lookup x).getD .non
  | _ => .non
def methOf (cs : List (Str × He.Dv)) (C : Str) : Stmt → List He.DefD
  | .FunctionDef n a b _ _ _ sc _ _ _ => [⟨(C, some n), n, C ++ "." ++ n, a, b, sc, a.defaults.map (dvOf cs), []⟩]
  | _ => []
def defOf1 (cs : List (Str × He.Dv)) : Stmt → List He.DefD
  | .FunctionDef n a b _ _ _ sc _ _ _ => [⟨(n, none), n, n, a, b, sc, a.defaults.map (dvOf cs), []⟩]
  | .ClassDef C _ _ body _ _ _ _ _ _ _ => body.flatMap (methOf cs C)
  | _ => []
def defsOf (tops : List Stmt) : List He.DefD := tops.flatMap (defOf1 (tops.flatMap constOf))
def namesOf1 : Stmt → List Str
  | .FunctionDef n _ _ _ _ _ _ _ _ _ => [n]
  | .ClassDef C _ _ _ _ _ _ _ _ _ _ => [C]
  | .Assign [.Name x _] _ _ => [x]
  | _ => []
def dedN : List Str → List Str
  | [] => []
  | x :: r => x :: (dedN r).filter fun y => !decide (y = x)
def looseOf (tops : List Stmt) : List Str := (dedN (tops.flatMap namesOf1)).filter fun x => !(decide (x = "law") || decide (x = "__name__"))
/-! ### what is asked of the head -/
def faFun (g : GS) (f : FI) : List He.Fa := match f.at_ with
  | (x, none) => [.glo x]
  | (x, some m) => .meth x m :: (if m = initN ∧ ((g.cls? x).bind fun c => g.excs.lookup c) = none then [.mkr x] else [])
def faCls (g : GS) (p : Str × Nat) : List He.Fa := match g.excs.lookup p.2 with
  | none => .glo p.1 :: .cls p.1 :: g.nm.attrs.map (.noat p.1)
  | some l => .glo p.1 :: .exc p.1 :: g.nm.clss.zipIdx.flatMap fun q => match g.excs.lookup q.2 with
    | none => []
    | some _ => [.exm p.1 q.1 (l.contains q.2)]
def faConst (p : Str × MV) : List He.Fa := match p.2 with
  | .int i => [.int p.1 i]
  | .str s => [.str p.1 ⟨s.toArray⟩]
  | _ => []
def faOf (g : GS) : List He.Fa := g.funs.flatMap (faFun g) ++ (g.nm.clss.zipIdx.flatMap (faCls g) ++ (g.consts.flatMap faConst ++ g.tops.map .free))
def isSc : MV → Bool
  | .int _ => true
  | .str _ => true
  | _ => false
/-- what is asked of the small program -/
def okG (g : GS) : Bool := g.funs.all okF && (decide g.nm.attrs.Nodup && g.consts.all fun p => isSc p.2)
section
variable {K : PySem.W.Frag} {h : Heap} {mg : Str → Option Value} {g : GS}
theorem lookup_mem {α : Type} : ∀ {l : List (Str × α)} {x : Str} {v : α}, l.lookup x = some v → (x, v) ∈ l
  | [], _, _, h => by cases h
  | (y, w) :: r, x, v, h => by
    rw [List.lookup_cons] at h
    cases hb : x == y with
    | true =>
      rw [hb] at h
      cases h
      rw [beq_iff_eq] at hb
      rw [hb]; exact List.mem_cons_self
    | false =>
      rw [hb] at h
      exact List.mem_cons_of_mem _ (lookup_mem h)
theorem idx_nodup {x : Str} {c : Nat} : ∀ {l : List Str}, x ∈ l → ∃ j, idx x l = some j
  | [], h => by cases h
  | y :: r, h => by
    unfold idx
    split
    · exact ⟨0, rfl⟩
    · rename_i hne
      rcases List.mem_cons.mp h with h | h
      · exact absurd h hne
      · obtain ⟨j, hj⟩ := idx_nodup (c := c) h
        exact ⟨j + 1, by rw [hj]; rfl⟩
theorem gf_of (X : K.In h) (G : h.Ns mainGlobals mg) (c : He.SaysD (faOf g) (g.funs.map (·.d)) K) (ok : okG g = true) (nd : g.nm.clss.Nodup) : GF g K mg := by
  have fact : ∀ f ∈ faOf g, f.ok K = true := fun f hf => by
    obtain ⟨i, hi, e⟩ := List.getElem_of_mem hf
    exact c.fact i (by rw [List.getElem?_eq_getElem hi, e])
  have inF : ∀ {i : Nat} {f : FI} {a : He.Fa}, g.funs[i]? = some f → a ∈ faFun g f → a.ok K = true := fun {i f a} hi ha => fact _ (List.mem_append_left _ (List.mem_flatMap.mpr ⟨f, List.mem_of_getElem? hi, ha⟩))
  have inC : ∀ {k : Nat} {x : Str} {a : He.Fa}, g.nm.clss[k]? = some x → a ∈ faCls g (x, k) → a.ok K = true := fun {k x a} hk ha =>
    fact _ (List.mem_append_right _ (List.mem_append_left _ (List.mem_flatMap.mpr ⟨(x, k), List.mem_zipIdx_iff_getElem?.mpr hk, ha⟩)))
  unfold okG at ok
  simp only [Bool.and_eq_true, decide_eq_true_eq, List.all_eq_true] at ok
  refine ⟨fun i f hi => ⟨ok.1 f (List.mem_of_getElem? hi), c.def_ i (by rw [List.getElem?_map, hi]; rfl)⟩, fun i f x hi ha => ?_, fun i f x m hi ha => ?_, fun k x hk hx => ?_, fun i f x k hi ha hk hx => ?_, fun x v hv => ?_, fun x hx => ?_, ok.2.1, fun k x l hk hx => ?_, fun a b x y l l' ha hb hx hy => ?_⟩
  · have := He.glo_ok X G (inF hi (a := .glo x) (by unfold faFun; rw [ha]; simp))
    rw [ha]; exact this
  · have := He.meth_ok (inF hi (a := .meth x m) (by unfold faFun; rw [ha]; simp))
    rw [ha]; exact this
  · have hm : ∀ a, a ∈ (.glo x :: .cls x :: g.nm.attrs.map (.noat x) : List He.Fa) → a.ok K = true := fun a ha => inC hk (by unfold faCls; rw [hx]; exact ha)
    exact ⟨He.glo_ok X G (hm _ (by simp)), He.cls_ok (hm (.cls x) (by simp)), fun y hy => He.noat_ok (hm (.noat x y) (by simp [hy]))⟩
  · have hc : g.cls? x = some k := by
      obtain ⟨j, hj⟩ := idx_nodup (c := k) (List.mem_of_getElem? hk)
      have h1 := idx_at hj
      obtain ⟨p1, q1⟩ := List.getElem?_eq_some_iff.mp h1
      obtain ⟨p2, q2⟩ := List.getElem?_eq_some_iff.mp hk
      have := (List.getElem_inj nd).mp (q1.trans q2.symm)
      rw [← this]; exact hj
    have := He.mkr_ok (inF hi (a := .mkr x) (by
      unfold faFun
      rw [ha]
      dsimp only
      rw [if_pos ⟨rfl, by rw [hc]; exact hx⟩]
      simp))
    rw [ha]; exact this
  · have hm := lookup_mem hv
    have hs := ok.2.2 _ hm
    have inK : ∀ a, a ∈ faConst (x, v) → a.ok K = true := fun a ha => fact _ (List.mem_append_right _ (List.mem_append_right _ (List.mem_append_left _ (List.mem_flatMap.mpr ⟨_, hm, ha⟩))))
    cases v with
    | int i =>
      obtain ⟨t, e⟩ := He.int_ok X G (inK (.int x i) (by simp [faConst]))
      exact ⟨_, .int i, e, ⟨t, rfl⟩, fun _ _ => by unfold RV; rfl⟩
    | str s =>
      obtain ⟨t, e⟩ := He.str_ok X G (inK (.str x ⟨s.toArray⟩) (by simp [faConst]))
      exact ⟨_, .str ⟨s.toArray⟩, e, ⟨t, rfl⟩, fun _ _ => by unfold RV; rfl⟩
    | _ => cases hs
  · refine He.free_ok X G (fact (.free x) ?_)
    refine List.mem_append_right _ (List.mem_append_right _ (List.mem_append_right _ (List.mem_map.mpr ⟨x, ?_, rfl⟩)))
    unfold GS.bltn at hx
    exact List.contains_iff_mem.mp hx
  · have hm : ∀ a, a ∈ faCls g (x, k) → a.ok K = true := fun a ha => inC hk ha
    have e : faCls g (x, k) = .glo x :: .exc x :: g.nm.clss.zipIdx.flatMap fun q => match g.excs.lookup q.2 with
      | none => []
      | some _ => [.exm x q.1 (l.contains q.2)] := by unfold faCls; rw [hx]
    obtain ⟨a1, a2, a3, a4⟩ := He.exc_ok (hm (.exc x) (by rw [e]; simp))
    exact ⟨He.glo_ok X G (hm (.glo x) (by rw [e]; simp)), a1, a2, a3, a4⟩
  · refine He.exm_ok (inC ha (a := .exm x y (l.contains b)) ?_)
    unfold faCls
    rw [hx]
    refine List.mem_cons_of_mem _ (List.mem_cons_of_mem _ (List.mem_flatMap.mpr ⟨(y, b), List.mem_zipIdx_iff_getElem?.mpr hb, ?_⟩))
    dsimp only
    rw [hy]
    simp
/-! ### the law -/
theorem fn_cx0 {P : Program} {w : World} {base : Heap} {cn : Bool} {k : Nat} {f : Addr} {fd : FuncData} {ps : List Str} {sp : Sp} (F : FnOk P w K mg base (cxM P w cn) k f fd ps sp) : FnOk P w K mg base L2.CX0 k f fd ps (fun vs H Q E => sp vs H Q fun _ _ _ => False) := by
  refine ⟨fun vs H Q E h => F.len _ _ _ _ h, fun A outer s H args us vs Q E hr e0 hb r hsp => ?_⟩
  refine codeAny_mono (F.run A outer s H args us vs Q _ hr e0 hb r hsp) fun r s' hq => ?_
  cases r with
  | ok fl => cases fl <;> exact hq
  | error e =>
    cases cn with
    | true =>
      obtain ⟨_, _, _, _, _, _, _, _, _, _, _, _, z⟩ := (show L2N.CX P w outer H s _ e s' from hq)
      exact z.elim
    | false =>
      obtain ⟨_, _, _, _, _, _, _, _, _, _, _, _, z⟩ := (show L2.CX P w outer H s _ e s' from hq)
      exact z.elim
theorem sq_only {H : Hp} {a : Addr} {xs : List V} (o : Only H) (s : SqL K H a xs) : SqF K H a xs := by
  rcases s with (s | ⟨ob, s⟩) | s
  · rcases o a with h | ⟨o', ys, h⟩
    · rw [h] at s; cases s
    · rw [h] at s; cases s
  · exact .inl ⟨ob, s⟩
  · exact .inr s
/-- the law's def keeps its promise -/
theorem law_ok {P : Program} {w : World} {f : FI} {i n : Nat} {fa : Addr} (X : K.In h) (G : h.Ns mainGlobals mg) (c : He.SaysD (faOf g) (g.funs.map (·.d)) K) (ok : okG g = true) (nd : g.nm.clss.Nodup) (hf : g.funs[i]? = some f) (hat : f.at_ = (("law" : Str), none)) (hps : f.ps = [("script" : Str)]) (hdf : f.d.dfl = [])
    (hfa : mg ("law" : Str) = some (.ref fa)) (plain : ∀ ns : List Int, ns.length ≤ 63 → ∃ h', callF g n i [.sq (ns.map .int)] [] = .ok (.bl true) h') :
    ∃ (fd : FuncData) (sp : Sp), (∀ (s : Shared) (u : Value), BindsTo s fd ⟨[u], []⟩ [(("script" : Str), u)]) ∧ (∀ (H : Hp) (a : Addr) (ns : List Int), ns.length ≤ 63 → Only H → SqL K H a (ns.map V.int) → sp [.ref a] H (fun v _ => v = .bl true) fun _ _ _ => False) ∧
      ∀ base : Heap, K.In base → base.Ns mainGlobals mg → FnOk P w K mg base L2.CX0 (2 * n) fa fd [("script" : Str)] sp := by
  have GFx := gf_of X G c ok nd
  obtain ⟨ho, fd0, F0⟩ := GFx.fn i f hf
  obtain ⟨fd, F1, _⟩ := (call_ok P w h GFx n).fn i f hf
  have hfe : fa = He.fAd K f.at_ := by
    have := GFx.glo i f ("law" : Str) hf hat
    rw [hfa] at this
    cases this
    rfl
  subst hfe
  have ho' := ho
  unfold okF at ho'
  simp only [Bool.and_eq_true, decide_eq_true_eq] at ho'
  obtain ⟨hp, hs, hk, hd, hl⟩ := ho'
  have hkw : f.d.kws K = [] := by
    unfold He.DefD.kws
    cases hq : f.d.kwd with
    | nil => rfl
    | cons a b => rw [hq] at hk; cases hk
  have hdv : f.d.dvs K = [] := by unfold He.DefD.dvs; rw [hdf]; rfl
  have F0' := F0
  rw [hkw, hdv] at F0'
  have nd2 : f.ps.Nodup := by rw [hps]; decide
  refine ⟨fd0, fun vs H Q E => spM K g.nm f.ps.length (callF g n i) vs H Q fun _ _ _ => False, fun s u => ?_, fun H a ns hl ho hS => ?_, fun base hb hg => ?_⟩
  · have := FunD.bindsA (ps := f.ps) F0' (fun kV doc pm an cdv ct us hl => by
      have hl' : us.length = f.d.params.args.length := by rw [hl]; unfold FI.ps; simp
      obtain ⟨k, e1, e2⟩ := bind_plain (x := f.d.name) (qual := f.d.qual) (body := f.d.body) (scope := f.d.scope) (dV := .none) (kV := kV) (doc := doc) (pm := pm) (an := an) (cdv := cdv) (ct := ct) (us := us) hp
      rw [e1]
      have := e2 none nd2 (by omega) (by simp) (by simp; omega)
      show k none = _
      rw [this]
      simp [FI.ps]) s [u] (by rw [hps]; rfl)
    rw [hps] at this
    exact this
  · obtain ⟨h', e⟩ := plain ns hl
    refine ⟨by rw [hps]; rfl, [], [], [.sq (ns.map .int)], ?_, ⟨rfl, List.nodup_nil, fun i o a h => by simp at h, fun i a h => by simp at h⟩, ?_⟩
    · refine RVs.one ?_
      unfold RV
      exact ⟨a, _, rfl, sq_only ho hS, RVs.of_ints ns⟩
    · rw [e]
      exact fun r1 H1 b x1 x2 x3 => RV.bl x3
  · have e1 : FnOk P w K mg base (cxM P w f.cn) (2 * n) (He.fAd K f.at_) fd0 f.ps (spM K g.nm f.ps.length (callF g n i)) := by
      cases n with
      | zero => exact ⟨fun vs H Q E h => h.1, fun A outer s H args us vs Q E hr e0 hb r hsp => by
          obtain ⟨_, rho, h, xs, _, _, rt⟩ := hsp
          exact rt.elim⟩
      | succ n =>
        have e : callF g (n + 1) i = runF g (callF g n) f := by
          funext vs h
          simp only [callF, hf]
        rw [e]
        exact fn_ok (call_ok P w base GFx n) F0 ho
    rw [← hps]
    exact fn_cx0 e1
end
end Mn
end

section
set_option autoImplicit false
set_option linter.all false
set_option maxRecDepth 100000
set_option maxHeartbeats 1000000
/-! the same semantics over a text with slots and numbers in place of names -/
namespace Mn
open PySem PySem.Spec L2
inductive CT where
  | one (i : Nat) | many (is : List Nat)
inductive BI where
  | len | str | int | ord | max | min | list | dict | sorted
  deriving DecidableEq
inductive BM where
  | split | join | startswith | find | append | extend | pop | get
  deriving DecidableEq
/-- a class's method: the class, the def, the defaults that fill up, must it not raise -/
structure CM where
  c : Nat
  i : Nat
  ex : List MV
  gd : Bool
  ok : Bool
inductive CE where
  | k (v : MV) | v (i : Nat) | bin (op : Operator) (a b : CE) | not (a : CE) | neg (a : CE) | bo (op : BoolOp) (es : List CE)
  | cmp (op : CmpOp) (a b : CE) | chain (op op' : CmpOp) (a b c : CE) | ite (t a b : CE) | tup (es : List CE) | lst (es : List CE) | dct
  | lc (elt : CE) (tg : CT) (kind : Nat) (it : List CE) (ifs : List CE) (own : List Nat)
  | isi (a : CE) (ts : List String) | sset (a : CE) | call (i : Nat) (es : List CE) (ex : List MV) (gd : Bool) | mk (c j : Nat) (es : List CE) (ex : List MV) (gd : Bool)
  | blt (b : BI) (es : List CE) | met (o : CE) (tab : List CM) (ms ml md : Option BM) (es : List CE) | attr (o : CE) (n : Nat) | ix (o i : CE) | sl (o : CE) (lo hi : Option CE)
  | tnot (a : CE) | tbo (op : BoolOp) (es : List CE) | tcmp (op : CmpOp) (a b : CE) | tch (op op' : CmpOp) (a b c : CE) | tv (a : CE)
/-- a built-in function -/
def bltM (b : BI) (h : MH) (vs : List MV) : Res MV := match b with
  | .len => match vs with
    | [x] => match lenM h x with
      | some n => .ok (.int n) h
      | none => .err
    | _ => .err
  | .str => match vs with
    | [.int i] => if i.natAbs.log2 < 1920 then .ok (.str (tl (Str.ofString (toString i)))) h else .err
    | [.str s] => .ok (.str s) h
    | _ => .err
  | .int => match vs with
    | [.int i] => .ok (.int i) h
    | [.bl b] => .ok (.int (if b then 1 else 0)) h
    | [.str s] => if s.length ≤ 640 then match PySem.intText? ⟨s.toArray⟩ with
      | some n => .ok (.int n) h
      | none => .err else .err
    | _ => .err
  | .ord => match vs with
    | [.str [c]] => .ok (.int c) h
    | _ => .err
  | .max => match vs with
    | [.int i, .int j] => .ok (.int (if j > i then j else i)) h
    | _ => .err
  | .min => match vs with
    | [.int i, .int j] => .ok (.int (if j < i then j else i)) h
    | _ => .err
  | .list => match vs with
    | [x] => match seqOf h x with
      | some xs => lay (.lst xs) h
      | none => .err
    | _ => .err
  | .dict => match vs with
    | [.ref a] => match h[a]? with
      | some (.dK kvs) => lay (.dK kvs) h
      | _ => .err
    | _ => .err
  | .sorted => match vs with
    | [.ref a] => match h[a]? with
      | some (.dK kvs) => match keysS kvs with
        | some ks => if ks.length < 64 then lay (.lst ((sortS ks).map .str)) h else .err
        | none => .err
      | some (.lst xs) => match intsM xs with
        | some ns => lay (.lst ((sortI ns).map .int)) h
        | none => match strsM xs with
          | some ss => if ss.length < 64 then lay (.lst ((sortS ss).map .str)) h else .err
          | none => match sortD h xs with
            | some ys => lay (.lst ys) h
            | none => .err
      | _ => .err
    | _ => .err
def bltOf (x : Str) : Option BI := if x = ("len" : Str) then some .len else if x = ("str" : Str) then some .str else if x = ("int" : Str) then some .int else if x = ("ord" : Str) then some .ord
  else if x = ("max" : Str) then some .max else if x = ("min" : Str) then some .min else if x = ("list" : Str) then some .list else if x = ("dict" : Str) then some .dict else if x = ("sorted" : Str) then some .sorted else none
theorem blt_eq {x : Str} {b : BI} (e : bltOf x = some b) (h : MH) (vs : List MV) : blt x h vs = bltM b h vs := by
  unfold bltOf at e
  repeat' split at e
  all_goals first
    | (cases e
       unfold blt bltM
       repeat (first | rw [if_neg (by assumption)] | rw [if_pos (by assumption)])
       done)
    | (cases e
       unfold blt
       repeat (first | rw [if_neg (by assumption)] | rw [if_pos (by assumption)])
       rfl)
    | cases e
def mtS (b : BM) (h : MH) (s : List Nat) (vs : List MV) : Res MV := match b with
  | .split => match vs with
      | [.str t] => if t ≠ [] ∧ s.length + 2 ≤ lim then lay (.lst ((Txt.split ⟨s.toArray⟩ ⟨t.toArray⟩).map fun z => .str (tl z))) h else .err
      | [.str t, .int k] => if t ≠ [] ∧ s.length + 2 ≤ lim ∧ -(2 ^ 63) ≤ k ∧ k < 2 ^ 63 then lay (.lst ((Txt.splitMax ⟨s.toArray⟩ ⟨t.toArray⟩ k).map fun z => .str (tl z))) h else .err
      | _ => .err
  | .join => match vs with
      | [y] => match (seqOf h y).bind strsM with
        | some ys => if (ys.map List.length).sum + ys.length * s.length ≤ lim then .ok (.str (joinM s ys)) h else .err
        | none => .err
      | _ => .err
  | .startswith => match vs with
      | [.str t] => .ok (.bl (Txt.startswith ⟨s.toArray⟩ ⟨t.toArray⟩)) h
      | _ => .err
  | .find => match vs with
      | [.str t, .int i] => .ok (.int (Txt.find3 ⟨s.toArray⟩ ⟨t.toArray⟩ i)) h
      | _ => .err
  | _ => .err
def mtL (b : BM) (h : MH) (a : Nat) (xs : List MV) (vs : List MV) : Res MV := match b with
  | .append => match vs with
        | [y] => if xs.length < lim then .ok .non (h.set a (.lst (xs ++ [y]))) else .err
        | _ => .err
  | .pop => match vs with
        | [] => match xs[xs.length - 1]? with
          | some y => .ok y (h.set a (.lst xs.dropLast))
          | none => .err
        | [.int i] => if -(2 ^ 63) ≤ i ∧ i < 2 ^ 63 then match seqIndex? i xs.length with
          | some k => match xs[k]? with
            | some y => .ok y (h.set a (.lst (xs.eraseIdx k)))
            | none => .err
          | none => .err else .err
        | _ => .err
  | .extend => match vs with
        | [.ref b] => match h[b]? with
          | some (.lst zs) => if xs.length + zs.length ≤ lim then .ok .non (h.set a (.lst (xs ++ zs))) else .err
          | _ => .err
        | _ => .err
  | _ => .err
def mtD (b : BM) (h : MH) (a : Nat) (kvs : List (MK × MV)) (vs : List MV) : Res MV := match b with
  | .pop => match vs with
        | [k] => match k1 k with
          | some q => match dget kvs q with
            | some v => .ok v (h.set a (.dK (ddrop kvs q)))
            | none => .err
          | none => .err
        | _ => .err
  | .get => match vs with
        | [k] => match k1 k with
          | some q => .ok ((dget kvs q).getD .non) h
          | none => .err
        | [k, d] => match k1 k with
          | some q => .ok ((dget kvs q).getD d) h
          | none => .err
        | _ => .err
  | _ => .err
def msOf (m : Str) : Option BM := if m = ("split" : Str) then some .split else if m = ("join" : Str) then some .join else if m = ("startswith" : Str) then some .startswith else if m = ("find" : Str) then some .find else none
def mlOf (m : Str) : Option BM := if m = ("append" : Str) then some .append else if m = ("pop" : Str) then some .pop else if m = ("extend" : Str) then some .extend else none
def mdOf (m : Str) : Option BM := if m = ("pop" : Str) then some .pop else if m = ("get" : Str) then some .get else none
theorem mtS_eq {m : Str} {b : BM} (e : msOf m = some b) (h : MH) (s : List Nat) (vs : List MV) : mth m h (.str s) vs = mtS b h s vs := by
  unfold msOf at e
  repeat' split at e
  all_goals first
    | (cases e
       unfold mth
       dsimp only
       repeat (first | rw [if_neg (by assumption)] | rw [if_pos (by assumption)])
       rfl)
    | cases e
theorem mtL_eq {m : Str} {b : BM} (e : mlOf m = some b) {h : MH} {a : Nat} {xs : List MV} (ha : h[a]? = some (.lst xs)) (vs : List MV) : mth m h (.ref a) vs = mtL b h a xs vs := by
  unfold mlOf at e
  repeat' split at e
  all_goals first
    | (cases e
       unfold mth
       dsimp only
       rw [ha]
       dsimp only
       repeat (first | rw [if_neg (by assumption)] | rw [if_pos (by assumption)])
       rfl)
    | cases e
theorem mtD_eq {m : Str} {b : BM} (e : mdOf m = some b) {h : MH} {a : Nat} {xs : List (MK × MV)} (ha : h[a]? = some (.dK xs)) (vs : List MV) : mth m h (.ref a) vs = mtD b h a xs vs := by
  unfold mdOf at e
  repeat' split at e
  all_goals first
    | (cases e
       unfold mth
       dsimp only
       rw [ha]
       dsimp only
       repeat (first | rw [if_neg (by assumption)] | rw [if_pos (by assumption)])
       rfl)
    | cases e
end Mn
end

section
set_option autoImplicit false
set_option linter.all false
set_option maxRecDepth 100000
set_option maxHeartbeats 1000000
/-! the semantics of that text; from names to it -/
namespace Mn
open PySem PySem.Spec L2
def setAll : List Nat → List MV → MSt → Option MSt
  | [], [], sm => some sm
  | i :: is, v :: vs, sm => setAll is vs (sm.set i (some v))
  | _, _, _ => none
def asgC : CT → MV → MSt → Option MSt
  | .one i, v, sm => some (sm.set i (some v))
  | .many is, v, sm => match v with
    | .tup xs => setAll is xs sm
    | .kt xs => setAll is xs sm
    | _ => none
/-- the turns of a comprehension -/
def lcC (et : MSt → MH → Res Bool) (ee : MSt → MH → Res MV) (tg : CT) (sm : MSt) (it : It) (D : Nat) : Nat → Nat → MH → Res MV
  | 0, _, _ => .err
  | m + 1, k, h => match it.at k h with
    | none => .err
    | some none => .ok (.ref D) h
    | some (some x) => match asgC tg x sm with
      | none => .err
      | some sm2 => (noEx (et sm2 h)).bind fun b h2 =>
        if b then (noEx (ee sm2 h2)).bind fun y h3 => match h3[D]? with
          | some (.lst acc) => if acc.length < lim then lcC et ee tg sm it D m (k + 1) (h3.set D (.lst (acc ++ [y]))) else .err
          | _ => .err
        else lcC et ee tg sm it D m (k + 1) h2
mutual
def evE (g : GS) (C : CallS) : CE → MSt → MH → Res MV
  | .k v, _, h => .ok v h
  | .v i, sm, h => match sm[i]? with
    | some (some v) => .ok v h
    | _ => .err
  | .bin op a b, sm, h => (evE g C a sm h).bind fun x h1 => (evE g C b sm h1).bind fun y h2 => binM op h2 x y
  | .not a, sm, h => (evE g C a sm h).bind fun x h1 => match truth h1 x with
      | some b => .ok (.bl (!b)) h1
      | none => .err
  | .neg a, sm, h => (evE g C a sm h).bind fun x h1 => match x with
      | .int i => .ok (.int (-i)) h1
      | _ => .err
  | .bo op es, sm, h => evBo g C op es sm h
  | .cmp op a b, sm, h => (evE g C a sm h).bind fun x h1 => (evE g C b sm h1).bind fun y h2 => (opt (cmpV op h2 x y) h2).bind fun k h3 => .ok (.bl k) h3
  | .chain op op' a b c, sm, h => (evE g C a sm h).bind fun x h1 => (evE g C b sm h1).bind fun y h2 => (opt (cmpM op h2 x y) h2).bind fun k h3 =>
    if k then (evE g C c sm h3).bind fun z h4 => (opt (cmpM op' h4 y z) h4).bind fun k' h5 => .ok (.bl k') h5 else .ok (.bl false) h3
  | .ite t a b, sm, h => (evT g C t sm h).bind fun k h1 => if k then evE g C a sm h1 else evE g C b sm h1
  | .tup es, sm, h => (evEs g C es sm h).bind fun xs h1 => if xs.length ≤ lim then .ok (.tup xs) h1 else .err
  | .lst es, sm, h => (evEs g C es sm h).bind fun xs h1 => if xs.length ≤ lim then lay (.lst xs) h1 else .err
  | .dct, _, h => lay (.dK []) h
  | .lc elt tg kind it ifs own, sm, h => (evI g C kind it sm h).bind fun it h1 => lcC (fun sm h => evIfC g C ifs sm h) (fun sm h => evE g C elt sm h) tg (wipeM sm own) it h1.length (it.fuel h1) 0 (h1 ++ [.lst []])
  | .isi a ts, sm, h => (evE g C a sm h).bind fun v h1 => match tyM h1 v with
      | some t => .ok (.bl (ts.any (isinM t))) h1
      | none => .err
  | .sset a, sm, h => (evE g C a sm h).bind fun v h1 => setSort h1 v
  | .call i es ex gd, sm, h => (evEs g C es sm h).bind fun vs h1 => guardR gd (C i (vs ++ ex) h1)
  | .mk c j es ex gd, sm, h => (evEs g C es sm h).bind fun vs h1 => (guardR gd (C j (.ref h1.length :: vs ++ ex) (h1 ++ [.ins c []]))).bind fun v h2 => match v with
        | .non => .ok (.ref h1.length) h2
        | _ => .err
  | .blt b es, sm, h => (evEs g C es sm h).bind fun vs h1 => bltM b h1 vs
  | .met o tab ms ml md es, sm, h => (evE g C o sm h).bind fun x h1 => match x with
    | .ref a => match h1[a]? with
      | some (.ins c _) => match tab.find? (fun m => m.c == c) with
        | some m => (evEs g C es sm h1).bind fun vs h2 => if m.ok then guardR m.gd (C m.i (x :: vs ++ m.ex) h2) else .err
        | none => .err
      | some (.lst _) => match ml with
        | some b => (evEs g C es sm h1).bind fun vs h2 => match h2[a]? with
          | some (.lst xs) => mtL b h2 a xs vs
          | _ => .err
        | none => .err
      | some (.dK _) => match md with
        | some b => (evEs g C es sm h1).bind fun vs h2 => match h2[a]? with
          | some (.dK xs) => mtD b h2 a xs vs
          | _ => .err
        | none => .err
      | _ => .err
    | .str s => match ms with
      | some b => (evEs g C es sm h1).bind fun vs h2 => mtS b h2 s vs
      | none => .err
    | _ => .err
  | .attr o n, sm, h => (evE g C o sm h).bind fun x h1 => match x with
    | .ref a => match h1[a]? with
      | some (.ins c fs) => if g.own c then opt (fget fs n) h1 else .err
      | _ => .err
    | _ => .err
  | .ix o i, sm, h => (evE g C o sm h).bind fun x h1 => (evE g C i sm h1).bind fun y h2 => opt (ixM h2 x y) h2
  | .sl o lo hi, sm, h => (evE g C o sm h).bind fun x h1 => (evP g C lo sm h1).bind fun l h2 => (evP g C hi sm h2).bind fun u h3 => slM h3 x l u
  | .tnot _, _, _ => .err
  | .tbo _ _, _, _ => .err
  | .tcmp _ _ _, _, _ => .err
  | .tch _ _ _ _ _, _, _ => .err
  | .tv _, _, _ => .err
def evT (g : GS) (C : CallS) : CE → MSt → MH → Res Bool
  | .tnot a, sm, h => (evT g C a sm h).bind fun b h1 => .ok (!b) h1
  | .tbo op es, sm, h => evBoT g C op es sm h
  | .tcmp op a b, sm, h => (evE g C a sm h).bind fun x h1 => (evE g C b sm h1).bind fun y h2 => opt (cmpV op h2 x y) h2
  | .tch op op' a b c, sm, h => (evE g C a sm h).bind fun x h1 => (evE g C b sm h1).bind fun y h2 => (opt (cmpM op h2 x y) h2).bind fun k h3 =>
    if k then (evE g C c sm h3).bind fun z h4 => opt (cmpM op' h4 y z) h4 else .ok false h3
  | .tv a, sm, h => (evE g C a sm h).bind fun x h1 => opt (truth h1 x) h1
  | .k _, _, _ => .err
  | .v _, _, _ => .err
  | .bin _ _ _, _, _ => .err
  | .not _, _, _ => .err
  | .neg _, _, _ => .err
  | .bo _ _, _, _ => .err
  | .cmp _ _ _, _, _ => .err
  | .chain _ _ _ _ _, _, _ => .err
  | .ite _ _ _, _, _ => .err
  | .tup _, _, _ => .err
  | .lst _, _, _ => .err
  | .dct, _, _ => .err
  | .lc _ _ _ _ _ _, _, _ => .err
  | .isi _ _, _, _ => .err
  | .sset _, _, _ => .err
  | .call _ _ _ _, _, _ => .err
  | .mk _ _ _ _ _, _, _ => .err
  | .blt _ _, _, _ => .err
  | .met _ _ _ _ _ _, _, _ => .err
  | .attr _ _, _, _ => .err
  | .ix _ _, _, _ => .err
  | .sl _ _ _, _, _ => .err
def evEs (g : GS) (C : CallS) : List CE → MSt → MH → Res (List MV)
  | [], _, h => .ok [] h
  | e :: es, sm, h => (evE g C e sm h).bind fun x h1 => (evEs g C es sm h1).bind fun xs h2 => .ok (x :: xs) h2
def evBo (g : GS) (C : CallS) (op : BoolOp) : List CE → MSt → MH → Res MV
  | [], _, _ => .err
  | [e], sm, h => evE g C e sm h
  | e :: es, sm, h => (evE g C e sm h).bind fun x h1 => match truth h1 x with
    | none => .err
    | some b => match op with
      | .And => if b then evBo g C op es sm h1 else .ok x h1
      | .Or => if b then .ok x h1 else evBo g C op es sm h1
def evBoT (g : GS) (C : CallS) (op : BoolOp) : List CE → MSt → MH → Res Bool
  | [], _, _ => .err
  | [e], sm, h => evT g C e sm h
  | e :: es, sm, h => (evT g C e sm h).bind fun b h1 => match op with
      | .And => if b then evBoT g C op es sm h1 else .ok false h1
      | .Or => if b then .ok true h1 else evBoT g C op es sm h1
def evIfC (g : GS) (C : CallS) : List CE → MSt → MH → Res Bool
  | [], _, h => .ok true h
  | e :: es, sm, h => (evT g C e sm h).bind fun b h1 => if b then evIfC g C es sm h1 else .ok false h1
def evP (g : GS) (C : CallS) : Option CE → MSt → MH → Res (Option Int)
  | none, _, h => .ok none h
  | some e, sm, h => (evE g C e sm h).bind fun x h1 => match x with
    | .int i => .ok (some i) h1
    | _ => .err
/-- what is walked: 0 a value, 1 range(a), 2 range(a, b) -/
def evI (g : GS) (C : CallS) : Nat → List CE → MSt → MH → Res It
  | 0, [a], sm, h => (evE g C a sm h).bind fun v h1 => opt (itOf h1 v) h1
  | 1, [a], sm, h => (evE g C a sm h).bind fun v h1 => match v with
    | .int n => opt (rangeM 0 n) h1
    | _ => .err
  | 2, [a, b], sm, h => (evE g C a sm h).bind fun v h1 => (evE g C b sm h1).bind fun u h2 => match v, u with
    | .int i, .int j => opt (rangeM i j) h2
    | _, _ => .err
  | _, _, _, _ => .err
end
/-! ### from names to slots and numbers -/
def tgSlot (sc : SC) : Expr → Option Nat
  | .Name x _ => sc.slotA x
  | _ => none
def cTg (sc : SC) : Expr → Option CT
  | .Name x _ => (sc.slotA x).map .one
  | .Tuple es _ _ => (mapO (tgSlot sc) es).map .many
  | _ => none
def cArity (f : FI) (n : Nat) : Option (List MV) := if n ≤ f.ps.length ∧ f.ps.length ≤ n + f.dfl.length then some (f.dfl.drop (n + f.dfl.length - f.ps.length)) else none
def cName (g : GS) (md : Bool) (x : Str) (es : List CE) : Option CE := match g.fun? x with
  | some i => match g.funs[i]? with
    | some f => (cArity f es.length).map fun ex => .call i es ex (md && !f.cn)
    | none => none
  | none => match g.cls? x with
    | some c => match g.meth? c initN with
      | some j => match g.funs[j]? with
        | some f => (cArity f (es.length + 1)).map fun ex => .mk c j es ex (md && !f.cn)
        | none => none
      | none => none
    | none => if g.bltn x then (bltOf x).map fun b => .blt b es else none
/-- the classes that have the method -/
def cTab (g : GS) (md : Bool) (m : Str) (n : Nat) : List Nat → Option (List CM)
  | [] => some []
  | c :: cs => match g.meth? c m with
    | none => cTab g md m n cs
    | some i => if g.own c then match g.funs[i]? with
        | some f => match cArity f (n + 1) with
          | some ex => (cTab g md m n cs).map fun t => ⟨c, i, ex, md && !f.cn, true⟩ :: t
          | none => (cTab g md m n cs).map fun t => ⟨c, i, [], false, false⟩ :: t
        | none => none
      else cTab g md m n cs
def cIt (g : GS) (sc : SC) (ce : Expr → Option CE) (e : Expr) : Option (Nat × List CE) := match e with
  | .Call (.Name x _) es [] _ => if x = ("range" : Str) ∧ sc.gl x = true ∧ g.bltn x = true ∧ plainA es = true then match es with
      | [a] => (ce a).map fun a' => (1, [a'])
      | [a, b] => match ce a, ce b with
        | some a', some b' => some (2, [a', b'])
        | _, _ => none
      | _ => none
    else (ce e).map fun a => (0, [a])
  | _ => (ce e).map fun a => (0, [a])
def cOpt (ce : Expr → Option CE) : Option Expr → Option (Option CE)
  | none => some none
  | some e => (ce e).map some
def cIsi (g : GS) (sc : SC) (ce : Expr → Option CE) (es : List Expr) : Option CE := match es with
  | [a, .Tuple [t1, t2] _ _] => match tyNm g sc t1, tyNm g sc t2 with
    | some T1, some T2 => (ce a).map fun a' => .isi a' [T1, T2]
    | _, _ => none
  | [a, t1] => match tyNm g sc t1 with
    | some T1 => (ce a).map fun a' => .isi a' [T1]
    | none => none
  | _ => none
structure CLv where
  e : SC → Expr → Option CE
  t : SC → Expr → Option CE
def cstepE (g : GS) (L : CLv) (sc : SC) (e : Expr) : Option CE := match e with
  | .Constant c _ _ => match c with
    | .none => some (.k .non)
    | .bool b => some (.k (.bl b))
    | .int i => some (.k (.int i))
    | .str x => some (.k (.str (tl x)))
    | _ => none
  | .Name x _ => match sc.slot x with
    | some i => some (.v i)
    | none => if sc.gl x then (g.consts.lookup x).map .k else none
  | .BinOp a op b _ => match L.e sc a, L.e sc b with
    | some a', some b' => some (.bin op a' b')
    | _, _ => none
  | .UnaryOp op a _ => match op with
    | .Not => (L.e sc a).map .not
    | .USub => (L.e sc a).map .neg
    | _ => none
  | .BoolOp op vs _ => (mapO (L.e sc) vs).map (.bo op)
  | .Compare a [op] [b] _ => if isSet b then none else match L.e sc a, L.e sc b with
    | some a', some b' => some (.cmp op a' b')
    | _, _ => none
  | .Compare a [op, op'] [b, c] _ => if isSet c then none else match L.e sc a, L.e sc b, L.e sc c with
    | some a', some b', some c' => some (.chain op op' a' b' c')
    | _, _, _ => none
  | .IfExp t a b _ => match L.t sc t, L.e sc a, L.e sc b with
    | some t', some a', some b' => some (.ite t' a' b')
    | _, _, _ => none
  | .Tuple es _ _ => if !plainA es then none else (mapO (L.e sc) es).map .tup
  | .List es _ => if !plainA es then none else (mapO (L.e sc) es).map .lst
  | .Dict [] [] _ => some .dct
  | .ListComp elt [⟨tg, iter, ifs, 0⟩] scope _ =>
    if blkOk sc scope && ((tgS (scIn sc scope) tg).all (ownN sc scope).contains && (decide (ifs.length ≤ 1) && !isSet iter)) then
      match cIt g sc (L.e sc) iter, L.e (scIn sc scope) elt, cTg (scIn sc scope) tg, mapO (L.t (scIn sc scope)) ifs with
      | some (kind, it), some elt', some tg', some ifs' => some (.lc elt' tg' kind it ifs' (ownN sc scope))
      | _, _, _, _ => none
    else none
  | .Call (.Name x _) es [] _ =>
    if sc.gl x && plainA es then
      if x = ("isinstance" : Str) ∧ g.bltn x = true then cIsi g sc (L.e sc) es
      else match inArg es with
        | some (y, a) => if x = ("sorted" : Str) ∧ y = ("set" : Str) ∧ g.bltn x = true ∧ g.bltn y = true ∧ sc.gl y = true ∧ plainA [a] = true then (L.e sc a).map .sset
          else if okN g x es then (mapO (L.e sc) es).bind (cName g sc.md x) else none
        | none => if okN g x es then (mapO (L.e sc) es).bind (cName g sc.md x) else none
    else none
  | .Call (.Attribute o m apos) es [] cpos => if apos.endLine == cpos.line && plainO o && plainA es then
      if (g.attr? m).isNone then match L.e sc o, mapO (L.e sc) es, cTab g sc.md m es.length (List.range g.nm.clss.length) with
        | some o', some es', some tab => some (.met o' tab (if okMs m es then msOf m else none) (if okMl m es then mlOf m else none) (if okMd m es then mdOf m else none) es')
        | _, _, _ => none
      else none
    else none
  | .Attribute o f _ => if plainO o then match L.e sc o, g.attr? f with
      | some o', some k => some (.attr o' k)
      | _, _ => none
    else none
  | .Subscript o (.Slice lo hi none _) _ => match L.e sc o, cOpt (L.e sc) lo, cOpt (L.e sc) hi with
    | some o', some l, some u => some (.sl o' l u)
    | _, _, _ => none
  | .Subscript o i _ => match i with
    | .Slice _ _ _ _ => none
    | i => match L.e sc o, L.e sc i with
      | some o', some i' => some (.ix o' i')
      | _, _ => none
  | _ => none
def cstepT (g : GS) (L : CLv) (sc : SC) (e : Expr) : Option CE := match e with
  | .UnaryOp .Not a _ => (L.t sc a).map .tnot
  | .BoolOp op vs _ => (mapO (L.t sc) vs).map (.tbo op)
  | .Compare a [op] [b] _ => if isSet b then none else match L.e sc a, L.e sc b with
    | some a', some b' => some (.tcmp op a' b')
    | _, _ => none
  | .Compare a [op, op'] [b, c] _ => if isSet c then none else match L.e sc a, L.e sc b, L.e sc c with
    | some a', some b', some c' => some (.tch op op' a' b' c')
    | _, _, _ => none
  | .Compare _ _ _ _ => none
  | .IfExp _ _ _ _ => none
  | e => (L.e sc e).map .tv
def clv (g : GS) : Nat → CLv
  | 0 => ⟨fun _ _ => none, fun _ _ => none⟩
  | n + 1 => ⟨cstepE g (clv g n), cstepT g (clv g n)⟩
end Mn
end

section
set_option autoImplicit false
set_option linter.all false
set_option maxRecDepth 100000
set_option maxHeartbeats 1000000
/-! both semantics are the same: expressions -/
namespace Mn
open PySem PySem.Spec L2
structure CEq (g : GS) (C : CallS) (L : Lv) (M : CLv) : Prop where
  e : ∀ sc e c, M.e sc e = some c → L.e sc e = evE g C c
  t : ∀ sc e c, M.t sc e = some c → L.t sc e = evT g C c
theorem mapO_cons {α β : Type} {f : α → Option β} {x : α} {r : List α} {l : List β} (h : mapO f (x :: r) = some l) : ∃ y t, f x = some y ∧ mapO f r = some t ∧ l = y :: t := by
  unfold mapO at h
  split at h
  · rename_i y hy
    cases ht : mapO f r with
    | none => rw [ht] at h; cases h
    | some t =>
      rw [ht] at h
      cases h
      exact ⟨y, t, hy, rfl, rfl⟩
  · cases h
theorem mapO_len {α β : Type} {f : α → Option β} : ∀ {xs : List α} {l : List β}, mapO f xs = some l → l.length = xs.length
  | [], l, h => by cases h; rfl
  | x :: r, l, h => by
    obtain ⟨y, t, _, h2, rfl⟩ := mapO_cons h
    simp [mapO_len h2]
section
variable {g : GS} {C : CallS} {L : Lv} {M : CLv} {sc : SC}
theorem evA_eq (q : CEq g C L M) : ∀ {es : List Expr} {l : List CE}, mapO (M.e sc) es = some l → evA (L.e sc) es = evEs g C l
  | [], l, h => by cases h; funext sm h; simp only [evA, evEs]
  | e :: es, l, h => by
    obtain ⟨c, t, h1, h2, rfl⟩ := mapO_cons h
    funext sm h
    simp only [evA, evEs, q.e _ _ _ h1, evA_eq q h2]
theorem evO_eq (q : CEq g C L M) {op : BoolOp} : ∀ {es : List Expr} {l : List CE}, mapO (M.e sc) es = some l → evO (L.e sc) op es = evBo g C op l
  | [], l, h => by cases h; funext sm h; simp only [evO, evBo]
  | [e], l, h => by
    obtain ⟨c, t, h1, h2, rfl⟩ := mapO_cons h
    cases h2
    funext sm h
    simp only [evO, evBo, q.e _ _ _ h1]
  | e :: e2 :: es, l, h => by
    obtain ⟨c, t, h1, h2, rfl⟩ := mapO_cons h
    have ih := evO_eq q (op := op) h2
    obtain ⟨c2, t2, h3, h4, rfl⟩ := mapO_cons h2
    funext sm h
    simp only [evO, evBo, q.e _ _ _ h1, ih]
    all_goals rfl
theorem evOT_eq (q : CEq g C L M) {op : BoolOp} : ∀ {es : List Expr} {l : List CE}, mapO (M.t sc) es = some l → evOT (L.t sc) op es = evBoT g C op l
  | [], l, h => by cases h; funext sm h; simp only [evOT, evBoT]
  | [e], l, h => by
    obtain ⟨c, t, h1, h2, rfl⟩ := mapO_cons h
    cases h2
    funext sm h
    simp only [evOT, evBoT, q.t _ _ _ h1]
  | e :: e2 :: es, l, h => by
    obtain ⟨c, t, h1, h2, rfl⟩ := mapO_cons h
    have ih := evOT_eq q (op := op) h2
    obtain ⟨c2, t2, h3, h4, rfl⟩ := mapO_cons h2
    funext sm h
    simp only [evOT, evBoT, q.t _ _ _ h1, ih]
    all_goals rfl
theorem evIfs_eq (q : CEq g C L M) : ∀ {es : List Expr} {l : List CE}, mapO (M.t sc) es = some l → evIfs (L.t sc) es = evIfC g C l
  | [], l, h => by cases h; funext sm h; simp only [evIfs, evIfC]
  | e :: es, l, h => by
    obtain ⟨c, t, h1, h2, rfl⟩ := mapO_cons h
    funext sm h
    simp only [evIfs, evIfC, q.t _ _ _ h1, evIfs_eq q h2]
theorem evP_eq (q : CEq g C L M) : ∀ {o : Option Expr} {c : Option CE}, cOpt (M.e sc) o = some c → evAt sc o (L.e sc) = evP g C c
  | none, c, h => by cases h; funext sm h; simp only [evAt, evP]
  | some e, c, h => by
    unfold cOpt at h
    dsimp only at h
    cases h1 : M.e sc e with
    | none => rw [h1] at h; cases h
    | some c1 =>
      rw [h1] at h
      cases h
      funext sm h
      simp only [evAt, evP, q.e _ _ _ h1]
      all_goals rfl
theorem evI_eq (q : CEq g C L M) {e : Expr} {kind : Nat} {it : List CE} (h : cIt g sc (M.e sc) e = some (kind, it)) : evIt g sc (L.e sc) e = evI g C kind it := by
  have val : ∀ {e : Expr}, ((M.e sc e).map fun a => (0, [a])) = some (kind, it) → (fun sm h => (L.e sc e sm h).bind fun v h1 => opt (itOf h1 v) h1) = evI g C kind it := by
    intro e h
    cases h1 : M.e sc e with
    | none => rw [h1] at h; cases h
    | some c =>
      rw [h1] at h
      cases h
      funext sm h
      simp only [evI, q.e _ _ _ h1]
  unfold cIt at h
  split at h
  · rename_i x p es cp
    split at h
    · rename_i hx
      split at h
      · rename_i a
        cases h1 : M.e sc a with
        | none => rw [h1] at h; cases h
        | some c =>
          rw [h1] at h
          cases h
          funext sm h
          simp only [evIt, evI, q.e _ _ _ h1]
          rw [if_pos hx]
          all_goals rfl
      · rename_i a b
        cases h1 : M.e sc a with
        | none => rw [h1] at h; cases h
        | some c =>
          cases h2 : M.e sc b with
          | none => rw [h1, h2] at h; cases h
          | some c2 =>
            rw [h1, h2] at h
            cases h
            funext sm h
            simp only [evIt, evI, q.e _ _ _ h1, q.e _ _ _ h2]
            rw [if_pos hx]
            all_goals rfl
      · cases h
    · rename_i hx
      rw [← val h]
      funext sm h
      simp only [evIt]
      rw [if_neg hx]
  · rename_i hne
    rw [← val h]
    funext sm h
    unfold evIt
    split
    · rename_i x p es cp
      exact absurd rfl (hne _ _ _ _)
    · rfl
theorem asgs_eq : ∀ {es : List Expr} {is : List Nat} {xs : List MV} {sm : MSt}, mapO (tgSlot sc) es = some is → asgs sc es xs sm = setAll is xs sm
  | [], is, [], sm, h => by cases h; rfl
  | [], is, _ :: _, sm, h => by cases h; rfl
  | e :: es, is, xs, sm, h => by
    obtain ⟨i, t, h1, h2, rfl⟩ := mapO_cons h
    cases e with
    | Name y p =>
      cases xs with
      | nil => rfl
      | cons v vs =>
        simp only [asgs, setAll]
        rw [show sc.slotA y = some i from h1]
        exact asgs_eq h2
    | _ => cases h1
theorem asg_eq {tg : Expr} {t : CT} (h : cTg sc tg = some t) : asg sc tg = asgC t := by
  unfold cTg at h
  split at h
  · rename_i x p
    cases h1 : sc.slotA x with
    | none => rw [h1] at h; cases h
    | some i =>
      rw [h1] at h
      cases h
      funext v sm
      simp only [asg, asgC, h1]
  · rename_i es k p
    cases h1 : mapO (tgSlot sc) es with
    | none => rw [h1] at h; cases h
    | some is =>
      rw [h1] at h
      cases h
      funext v sm
      simp only [asg, asgC]
      cases v <;> first | exact asgs_eq h1 | rfl
  · cases h
theorem lc_eq (q : CEq g C L M) {elt tg : Expr} {ifs : List Expr} {c : CE} {t : CT} {l : List CE} (h1 : M.e sc elt = some c) (h2 : cTg sc tg = some t) (h3 : mapO (M.t sc) ifs = some l) (sm : MSt) (it : It) (D : Nat) : ∀ (m k : Nat) (h : MH),
    lcM L sc elt tg ifs sm it D m k h = lcC (fun sm h => evIfC g C l sm h) (fun sm h => evE g C c sm h) t sm it D m k h
  | 0, k, h => rfl
  | m + 1, k, h => by
    unfold lcM lcC
    rw [asg_eq h2, evIfs_eq q h3, q.e _ _ _ h1]
    have ih := lc_eq q h1 h2 h3 sm it D m
    cases it.at k h with
    | none => rfl
    | some o =>
      cases o with
      | none => rfl
      | some x =>
        dsimp only
        cases asgC t x sm with
        | none => rfl
        | some sm2 =>
          dsimp only
          congr 1
          funext b h2
          cases b with
          | false => exact ih _ _
          | true =>
            simp only [if_true]
            congr 1
            funext y h3
            cases h3[D]? with
            | none => rfl
            | some o =>
              cases o with
              | lst acc =>
                dsimp only
                by_cases hl : acc.length < lim
                · rw [if_pos hl, if_pos hl]; exact ih _ _
                · rw [if_neg hl, if_neg hl]
              | _ => rfl
theorem evEs_len {sm : MSt} : ∀ {l : List CE} {h h1 : MH} {vs : List MV}, evEs g C l sm h = .ok vs h1 → vs.length = l.length
  | [], h, h1, vs, e => by simp only [evEs] at e; cases e; rfl
  | c :: l, h, h1, vs, e => by
    simp only [evEs] at e
    cases hq : evE g C c sm h with
    | ok x h2 =>
      rw [hq] at e
      simp only [Res.bind] at e
      cases hq2 : evEs g C l sm h2 with
      | ok xs h3 =>
        rw [hq2] at e
        simp only [Res.bind] at e
        cases e
        simp [evEs_len hq2]
      | ex _ _ => rw [hq2] at e; cases e
      | err => rw [hq2] at e; cases e
    | ex _ _ => rw [hq] at e; cases e
    | err => rw [hq] at e; cases e
theorem bind_congr' {α β : Type} {r : Res α} {f f' : α → MH → Res β} (h : ∀ a h1, r = .ok a h1 → f a h1 = f' a h1) : r.bind f = r.bind f' := by
  cases r with
  | ok a h1 => exact h a h1 rfl
  | ex _ _ => rfl
  | err => rfl
theorem arity_ok {f : FI} {n : Nat} {ex : List MV} (h : cArity f n = some ex) : (n ≤ f.ps.length ∧ f.ps.length ≤ n + f.dfl.length) ∧ ex = f.dfl.drop (n + f.dfl.length - f.ps.length) := by
  unfold cArity at h
  split at h
  · rename_i hc
    cases h
    exact ⟨hc, rfl⟩
  · cases h
theorem call_eq {i : Nat} {f : FI} {n : Nat} {ex : List MV} {md : Bool} (hf : g.funs[i]? = some f) (ha : cArity f n = some ex) {vs : List MV} (hn : vs.length = n) (h : MH) : callI g C md i vs h = guardR (md && !f.cn) (C i (vs ++ ex) h) := by
  obtain ⟨h1, h2⟩ := arity_ok ha
  subst hn
  simp only [callI, hf]
  rw [if_pos h1, h2]
theorem name_eq {x : Str} {es : List CE} {c : CE} {md : Bool} (h : cName g md x es = some c) (sm : MSt) (h0 : MH) : ((evEs g C es sm h0).bind fun vs h1 => callN g C md x vs h1) = evE g C c sm h0 := by
  unfold cName at h
  split at h
  · rename_i i hi
    split at h
    · rename_i f hf
      cases ha : cArity f es.length with
      | none => rw [ha] at h; cases h
      | some ex =>
        rw [ha] at h
        cases h
        simp only [evE]
        refine bind_congr' fun vs h1 hv => ?_
        simp only [callN, hi]
        exact call_eq hf ha (evEs_len hv) h1
    · cases h
  · rename_i hi
    split at h
    · rename_i c' hc
      split at h
      · rename_i j hj
        split at h
        · rename_i f hf
          cases ha : cArity f (es.length + 1) with
          | none => rw [ha] at h; cases h
          | some ex =>
            rw [ha] at h
            cases h
            simp only [evE]
            refine bind_congr' fun vs h1 hv => ?_
            simp only [callN, hi, hc, hj]
            rw [call_eq hf ha (by simp [evEs_len hv])]
            all_goals rfl
        · cases h
      · cases h
    · rename_i hc
      split at h
      · rename_i hb
        cases hx : bltOf x with
        | none => rw [hx] at h; cases h
        | some b =>
          rw [hx] at h
          cases h
          simp only [evE]
          refine bind_congr' fun vs h1 hv => ?_
          simp only [callN, hi, hc, hb, if_true]
          exact blt_eq hx h1 vs
      · cases h
def entOf (g : GS) (md : Bool) (m : Str) (n : Nat) (c : Nat) : Option CM := match g.meth? c m with
  | none => none
  | some i => if g.own c = true then match g.funs[i]? with
      | some f => match cArity f (n + 1) with
        | some ex => some ⟨c, i, ex, md && !f.cn, true⟩
        | none => some ⟨c, i, [], false, false⟩
      | none => none
    else none
theorem tab_find {md : Bool} {m : Str} {n : Nat} : ∀ {cs : List Nat} {tab : List CM}, cTab g md m n cs = some tab → ∀ c, tab.find? (fun m => m.c == c) = if c ∈ cs then entOf g md m n c else none
  | [], tab, h, c => by cases h; rfl
  | a :: cs, tab, h, c => by
    have skip : cTab g md m n cs = some tab → entOf g md m n a = none → tab.find? (fun m => m.c == c) = if c ∈ a :: cs then entOf g md m n c else none := by
      intro h he
      rw [tab_find h c]
      by_cases hc : c = a
      · subst hc
        rw [he]
        simp
      · by_cases h2 : c ∈ cs
        · rw [if_pos h2, if_pos (List.mem_cons_of_mem _ h2)]
        · rw [if_neg h2, if_neg (by simp [hc, h2])]
    unfold cTab at h
    split at h
    · rename_i hm
      exact skip h (by unfold entOf; rw [hm])
    · rename_i i hm
      split at h
      · rename_i ho
        split at h
        · rename_i f hf
          have go : ∀ (w : CM), w.c = a → entOf g md m n a = some w → (cTab g md m n cs).map (fun t => w :: t) = some tab → tab.find? (fun m => m.c == c) = if c ∈ a :: cs then entOf g md m n c else none := by
            intro w hw he h
            cases ht : cTab g md m n cs with
            | none => rw [ht] at h; cases h
            | some t =>
              rw [ht] at h
              cases h
              rw [List.find?_cons]
              by_cases hc : c = a
              · subst hc
                rw [he, hw]
                simp
              · have : (w.c == c) = false := by rw [hw]; exact beq_eq_false_iff_ne.mpr fun z => hc z.symm
                rw [this]
                dsimp only
                rw [tab_find ht c]
                by_cases h2 : c ∈ cs
                · rw [if_pos h2, if_pos (List.mem_cons_of_mem _ h2)]
                · rw [if_neg h2, if_neg (by simp [hc, h2])]
          split at h
          · rename_i ex hx
            refine go ⟨a, i, ex, md && !f.cn, true⟩ rfl ?_ h
            unfold entOf
            rw [hm]
            dsimp only
            rw [if_pos ho, hf]
            dsimp only
            rw [hx]
          · rename_i hx
            refine go ⟨a, i, [], false, false⟩ rfl ?_ h
            unfold entOf
            rw [hm]
            dsimp only
            rw [if_pos ho, hf]
            dsimp only
            rw [hx]
        · cases h
      · rename_i ho
        exact skip h (by unfold entOf; rw [hm]; dsimp only; rw [if_neg ho])
theorem tab_ent {md : Bool} {m : Str} {n : Nat} : ∀ {cs : List Nat} {tab : List CM}, cTab g md m n cs = some tab → ∀ c i, c ∈ cs → g.meth? c m = some i → g.own c = true → (entOf g md m n c).isSome = true
  | [], tab, h, c, i, hc, _, _ => by cases hc
  | a :: cs, tab, h, c, i, hc, hm, ho => by
    unfold cTab at h
    by_cases hca : c = a
    · subst hca
      rw [hm] at h
      dsimp only at h
      rw [if_pos ho] at h
      unfold entOf
      rw [hm]
      dsimp only
      rw [if_pos ho]
      cases hf : g.funs[i]? with
      | none => rw [hf] at h; cases h
      | some f =>
        rw [hf] at h
        dsimp only at h ⊢
        cases hx : cArity f (n + 1) with
        | none => rfl
        | some ex => rfl
    · have hc' : c ∈ cs := by
        rcases List.mem_cons.mp hc with h | h
        · exact absurd h hca
        · exact h
      split at h
      · exact tab_ent h c i hc' hm ho
      · split at h
        · split at h
          · split at h
            · cases ht : cTab g md m n cs with
              | none => rw [ht] at h; cases h
              | some t => exact tab_ent ht c i hc' hm ho
            · cases ht : cTab g md m n cs with
              | none => rw [ht] at h; cases h
              | some t => exact tab_ent ht c i hc' hm ho
          · cases h
        · exact tab_ent h c i hc' hm ho
theorem met_eq {md : Bool} {m : Str} {es : List Expr} {es' : List CE} {tab : List CM} {ev : Expr → MSt → MH → Res MV} (ha : (g.attr? m).isNone = true) (h1 : evA ev es = evEs g C es') (hl : es'.length = es.length) (h2 : cTab g md m es.length (List.range g.nm.clss.length) = some tab) (x : MV) (sm : MSt) (h0 : MH) :
    (match x with
    | .ref a => match h0[a]? with
      | some (.ins c fs) => match g.meth? c m with
        | some i => if ((g.attr? m).bind (fget fs)).isNone && g.own c then (evA ev es sm h0).bind fun vs h2 => callI g C md i (x :: vs) h2 else .err
        | none => .err
      | some (.lst _) => if okMl m es then (evA ev es sm h0).bind fun vs h2 => if isLst h2 x then mth m h2 x vs else .err else .err
      | some (.dK _) => if okMd m es then (evA ev es sm h0).bind fun vs h2 => if isDk h2 x then mth m h2 x vs else .err else .err
      | _ => .err
    | .str _ => if okMs m es then (evA ev es sm h0).bind fun vs h2 => mth m h2 x vs else .err
    | _ => .err) =
    (match x with
    | .ref a => match h0[a]? with
      | some (.ins c _) => match tab.find? (fun m => m.c == c) with
        | some m => (evEs g C es' sm h0).bind fun vs h2 => if m.ok then guardR m.gd (C m.i (x :: vs ++ m.ex) h2) else .err
        | none => .err
      | some (.lst _) => match (if okMl m es then mlOf m else none) with
        | some b => (evEs g C es' sm h0).bind fun vs h2 => match h2[a]? with
          | some (.lst xs) => mtL b h2 a xs vs
          | _ => .err
        | none => .err
      | some (.dK _) => match (if okMd m es then mdOf m else none) with
        | some b => (evEs g C es' sm h0).bind fun vs h2 => match h2[a]? with
          | some (.dK xs) => mtD b h2 a xs vs
          | _ => .err
        | none => .err
      | _ => .err
    | .str s => match (if okMs m es then msOf m else none) with
      | some b => (evEs g C es' sm h0).bind fun vs h2 => mtS b h2 s vs
      | none => .err
    | _ => (.err : Res MV)) := by
  have okl : okMl m es = true → ∃ b, mlOf m = some b := by
    intro h
    simp only [okMl, Bool.and_eq_true, Bool.or_eq_true, decide_eq_true_eq] at h
    rcases h with h | h | h
    · rw [h.1]; exact ⟨.append, by decide⟩
    · rw [h.1]; exact ⟨.extend, by decide⟩
    · rw [h]; exact ⟨.pop, by decide⟩
  have okd : okMd m es = true → ∃ b, mdOf m = some b := by
    intro h
    simp only [okMd, Bool.and_eq_true, Bool.or_eq_true, decide_eq_true_eq] at h
    rcases h with h | h
    · rw [h.1]; exact ⟨.pop, by decide⟩
    · rw [h.1]; exact ⟨.get, by decide⟩
  have oks : okMs m es = true → ∃ b, msOf m = some b := by
    intro h
    simp only [okMs, Bool.and_eq_true, Bool.or_eq_true, decide_eq_true_eq] at h
    rcases h.1 with h | h | h | h
    · rw [h]; exact ⟨.split, by decide⟩
    · rw [h]; exact ⟨.join, by decide⟩
    · rw [h]; exact ⟨.startswith, by decide⟩
    · rw [h]; exact ⟨.find, by decide⟩
  rw [h1]
  cases x with
  | ref a =>
    dsimp only
    cases hh : h0[a]? with
    | none => rfl
    | some o =>
      cases o with
      | ins c fs =>
        dsimp only
        rw [tab_find h2 c]
        simp only [List.mem_range]
        rw [Option.isNone_iff_eq_none] at ha
        rw [ha]
        cases hm : g.meth? c m with
        | none =>
          dsimp only
          by_cases hc : c < g.nm.clss.length
          · rw [if_pos hc]; unfold entOf; rw [hm]
          · rw [if_neg hc]
        | some i =>
          dsimp only
          by_cases ho : g.own c = true
          · have hc : c < g.nm.clss.length := by
              unfold GS.own at ho
              simp only [Bool.and_eq_true, decide_eq_true_eq] at ho
              exact ho.1
            rw [if_pos hc, ho]
            obtain ⟨f, hf, _⟩ := findFun_at hm
            unfold entOf
            rw [hm]
            dsimp only
            rw [if_pos ho, hf]
            dsimp only
            cases hx : cArity f (es.length + 1) with
            | none =>
              simp only [Option.bind_none, Option.isNone_none, Bool.and_self, if_true, Bool.false_eq_true, if_false]
              refine bind_congr' fun vs h3 hv => ?_
              simp only [callI, hf]
              rw [if_neg]
              intro hc
              have hl2 : (MV.ref a :: vs).length = es.length + 1 := by simp [evEs_len hv, hl]
              rw [hl2] at hc
              unfold cArity at hx
              rw [if_pos hc] at hx
              cases hx
            | some ex =>
              simp only [Option.bind_none, Option.isNone_none, Bool.and_self, if_true, Option.map_some]
              refine bind_congr' fun vs h3 hv => ?_
              exact call_eq hf hx (by simp [evEs_len hv, hl]) h3
          · have ho' : g.own c = false := by simpa using ho
            rw [ho']
            have : entOf g md m es.length c = none := by unfold entOf; rw [hm]; dsimp only; rw [if_neg ho]
            rw [this]
            by_cases hc : c < g.nm.clss.length
            · rw [if_pos hc]; simp
            · rw [if_neg hc]; simp
      | lst xs =>
        dsimp only
        cases hk : okMl m es with
        | false => rfl
        | true =>
          obtain ⟨b, hb⟩ := okl hk
          simp only [if_true, hb]
          refine bind_congr' fun vs h3 hv => ?_
          have key : ∀ o, h3[a]? = o → (if (match o with
              | some (.lst _) => true
              | _ => false : Bool) = true then mth m h3 (.ref a) vs else .err) = match o with
              | some (.lst xs) => mtL b h3 a xs vs
              | _ => .err := by
            intro o hq
            cases o with
            | none => rfl
            | some o =>
              cases o with
              | lst ys => rw [if_pos rfl]; exact mtL_eq hb hq vs
              | _ => rfl
          exact key _ rfl
      | dK xs =>
        dsimp only
        cases hk : okMd m es with
        | false => rfl
        | true =>
          obtain ⟨b, hb⟩ := okd hk
          simp only [if_true, hb]
          refine bind_congr' fun vs h3 hv => ?_
          have key : ∀ o, h3[a]? = o → (if (match o with
              | some (.dK _) => true
              | _ => false : Bool) = true then mth m h3 (.ref a) vs else .err) = match o with
              | some (.dK xs) => mtD b h3 a xs vs
              | _ => .err := by
            intro o hq
            cases o with
            | none => rfl
            | some o =>
              cases o with
              | dK ys => rw [if_pos rfl]; exact mtD_eq hb hq vs
              | _ => rfl
          exact key _ rfl
      | dT xs => rfl
  | str s =>
    dsimp only
    cases hk : okMs m es with
    | false => rfl
    | true =>
      obtain ⟨b, hb⟩ := oks hk
      simp only [if_true, hb]
      refine bind_congr' fun vs h3 hv => ?_
      exact mtS_eq hb h3 s vs
  | _ => rfl
end
end Mn
end

section
set_option autoImplicit false
set_option linter.all false
set_option maxRecDepth 100000
set_option maxHeartbeats 1000000
/-! both semantics are the same: all expressions -/
namespace Mn
open PySem PySem.Spec L2
section
variable {g : GS} {C : CallS} {L : Lv} {M : CLv} {sc : SC}
theorem om {α β : Type} {o : Option α} {f : α → β} {b : β} (h : o.map f = some b) : ∃ a, o = some a ∧ f a = b := Option.map_eq_some_iff.mp h
theorem two_eq (q : CEq g C L M) {a b : Expr} {F : CE → CE → CE} {c : CE} (h : (match M.e sc a, M.e sc b with
    | some a', some b' => some (F a' b')
    | _, _ => none) = some c) : ∃ a' b', L.e sc a = evE g C a' ∧ L.e sc b = evE g C b' ∧ c = F a' b' := by
  split at h
  · rename_i a' b' h1 h2
    cases h
    exact ⟨a', b', q.e _ _ _ h1, q.e _ _ _ h2, rfl⟩
  · cases h
theorem three_eq (q : CEq g C L M) {a b d : Expr} {F : CE → CE → CE → CE} {c : CE} (h : (match M.e sc a, M.e sc b, M.e sc d with
    | some a', some b', some d' => some (F a' b' d')
    | _, _, _ => none) = some c) : ∃ a' b' d', L.e sc a = evE g C a' ∧ L.e sc b = evE g C b' ∧ L.e sc d = evE g C d' ∧ c = F a' b' d' := by
  split at h
  · rename_i a' b' d' h1 h2 h3
    cases h
    exact ⟨a', b', d', q.e _ _ _ h1, q.e _ _ _ h2, q.e _ _ _ h3, rfl⟩
  · cases h
theorem isi_eq (q : CEq g C L M) {es : List Expr} {c : CE} (h : cIsi g sc (M.e sc) es = some c) : isiM g L sc es = evE g C c := by
  unfold cIsi at h
  split at h
  · rename_i a t1 t2 k p
    cases h1 : tyNm g sc t1 with
    | none => rw [h1] at h; cases h
    | some T1 =>
      cases h2 : tyNm g sc t2 with
      | none => rw [h1, h2] at h; cases h
      | some T2 =>
        rw [h1, h2] at h
        obtain ⟨a', h3, rfl⟩ := om h
        funext sm h0
        simp only [isiM, h1, h2, evE, q.e _ _ _ h3, List.any_cons, List.any_nil, Bool.or_false]
        all_goals rfl
  · rename_i a t1 hne
    cases h1 : tyNm g sc t1 with
    | none => rw [h1] at h; cases h
    | some T1 =>
      rw [h1] at h
      obtain ⟨a', h3, rfl⟩ := om h
      funext sm h0
      unfold isiM
      split
      · rename_i heq
        cases heq
        exact absurd rfl (hne _ _ _ _)
      · rename_i heq
        cases heq
        simp only [h1, evE, q.e _ _ _ h3, List.any_cons, List.any_nil, Bool.or_false]
        all_goals rfl
      · rename_i h2
        exact absurd rfl (h2 _ _)
  · cases h
theorem nm_eq (q : CEq g C L M) {x : Str} {es : List Expr} {c : CE} (h : ((mapO (M.e sc) es).bind (cName g sc.md x)) = some c) : (fun sm h => (evA (L.e sc) es sm h).bind fun vs h1 => callN g C sc.md x vs h1) = evE g C c := by
  cases h1 : mapO (M.e sc) es with
  | none => rw [h1] at h; cases h
  | some l =>
    rw [h1] at h
    funext sm h0
    rw [evA_eq q h1]
    exact name_eq h sm h0
theorem stepE_eq (q : CEq g C L M) {e : Expr} {c : CE} (h : cstepE g M sc e = some c) : stepE g C L sc e = evE g C c := by
  unfold cstepE at h
  split at h
  · split at h <;> first | (cases h; funext sm h0; simp only [stepE, evE]; done) | cases h
  · rename_i x p
    cases hs : sc.slot x with
    | some i =>
      rw [hs] at h
      cases h
      funext sm h0
      simp only [stepE, evE, hs]
      all_goals rfl
    | none =>
      rw [hs] at h
      dsimp only at h
      split at h
      · rename_i hg
        obtain ⟨v, h1, rfl⟩ := om h
        funext sm h0
        simp only [stepE, evE, hs, hg, if_true, h1, opt]
      · cases h
  · obtain ⟨a', b', h1, h2, rfl⟩ := two_eq q h
    funext sm h0
    simp only [stepE, evE, h1, h2]
  · split at h
    · obtain ⟨a', h1, rfl⟩ := om h
      funext sm h0
      simp only [stepE, evE, q.e _ _ _ h1]
      all_goals rfl
    · obtain ⟨a', h1, rfl⟩ := om h
      funext sm h0
      simp only [stepE, evE, q.e _ _ _ h1]
      all_goals rfl
    · cases h
  · obtain ⟨l, h1, rfl⟩ := om h
    funext sm h0
    simp only [stepE, evE, evO_eq q h1]
  · split at h
    · cases h
    · rename_i hb
      obtain ⟨a', b', h1, h2, rfl⟩ := two_eq q h
      funext sm h0
      simp only [stepE, evE, h1, h2]
      rw [if_neg hb]
  · split at h
    · cases h
    · rename_i hb
      obtain ⟨a', b', c', h1, h2, h3, rfl⟩ := three_eq q h
      funext sm h0
      simp only [stepE, evE, h1, h2, h3]
      rw [if_neg hb]
  · split at h
    · rename_i t' a' b' h1 h2 h3
      cases h
      funext sm h0
      simp only [stepE, evE, q.t _ _ _ h1, q.e _ _ _ h2, q.e _ _ _ h3]
    · cases h
  · split at h
    · cases h
    · rename_i hb
      obtain ⟨l, h1, rfl⟩ := om h
      funext sm h0
      simp only [stepE, evE, evA_eq q h1]
      rw [if_neg hb]
  · split at h
    · cases h
    · rename_i hb
      obtain ⟨l, h1, rfl⟩ := om h
      funext sm h0
      simp only [stepE, evE, evA_eq q h1]
      rw [if_neg hb]
  · cases h
    funext sm h0
    simp only [stepE, evE]
  · split at h
    · rename_i hb
      split at h
      · rename_i kind it elt' tg' ifs' h1 h2 h3 h4
        cases h
        funext sm h0
        simp only [stepE, evE, evI_eq q h1]
        rw [if_pos hb]
        congr 1
        funext it h1
        exact lc_eq q h2 h3 h4 _ _ _ _ _ _
      · cases h
    · cases h
  · rename_i x p es pos
    split at h
    · rename_i hg
      split at h
      · rename_i hi
        funext sm h0
        simp only [stepE]
        rw [if_pos hg, if_pos hi, isi_eq q h]
      · rename_i hi
        have gen : (if okN g x es = true then (mapO (M.e sc) es).bind (cName g sc.md x) else none) = some c → (fun sm h => if okN g x es = true then (evA (L.e sc) es sm h).bind fun vs h1 => callN g C sc.md x vs h1 else .err) = evE g C c := by
          intro h
          split at h
          · rename_i hk
            rw [← nm_eq q h]
            funext sm h0
            rw [if_pos hk]
          · cases h
        split at h
        · rename_i y a hin
          split at h
          · rename_i hs
            obtain ⟨a', h1, rfl⟩ := om h
            funext sm h0
            simp only [stepE, hin]
            rw [if_pos hg, if_neg hi, if_pos hs]
            simp only [evE, q.e _ _ _ h1]
          · rename_i hs
            rw [← gen h]
            funext sm h0
            simp only [stepE, hin]
            rw [if_pos hg, if_neg hi, if_neg hs]
        · rename_i hin
          rw [← gen h]
          funext sm h0
          simp only [stepE, hin]
          rw [if_pos hg, if_neg hi]
    · cases h
  · rename_i o m apos es cpos
    split at h
    · rename_i hg
      split at h
      · rename_i ha
        split at h
        · rename_i o' es' tab h1 h2 h3
          cases h
          funext sm h0
          simp only [stepE, evE, q.e _ _ _ h1]
          rw [if_pos hg]
          congr 1
          funext x hh
          exact met_eq ha (evA_eq q h2) (mapO_len h2) h3 x sm hh
        · cases h
      · cases h
    · cases h
  · rename_i o f p
    split at h
    · rename_i hb
      split at h
      · rename_i o' k h1 h2
        cases h
        funext sm h0
        simp only [stepE, evE, q.e _ _ _ h1]
        rw [if_pos hb]
        congr 1
        funext x hh
        cases x with
        | ref a =>
          dsimp only
          rw [h2]
          cases hh[a]? with
          | none => rfl
          | some o => cases o <;> rfl
        | _ => rfl
      · cases h
    · cases h
  · split at h
    · rename_i o' l u h1 h2 h3
      cases h
      funext sm h0
      simp only [stepE, evE, q.e _ _ _ h1, evP_eq q h2, evP_eq q h3]
    · cases h
  · rename_i o i p hns
    split at h
    · cases h
    · rename_i hne
      obtain ⟨o', i', h1, h2, rfl⟩ := two_eq q h
      funext sm h0
      have : stepE g C L sc (.Subscript o i p) sm h0 = (L.e sc o sm h0).bind fun x h1 => (L.e sc i sm h1).bind fun y h2 => opt (ixM h2 x y) h2 := by
        cases i <;> first | rfl | exact (hne _ _ _ _ rfl).elim
      rw [this]
      simp only [evE, h1, h2]
  · cases h
theorem stepT_eq (q : CEq g C L M) {e : Expr} {c : CE} (h : cstepT g M sc e = some c) : stepT g C L sc e = evT g C c := by
  unfold cstepT at h
  split at h
  · obtain ⟨a', h1, rfl⟩ := om h
    funext sm h0
    simp only [stepT, evT, q.t _ _ _ h1]
  · obtain ⟨l, h1, rfl⟩ := om h
    funext sm h0
    simp only [stepT, evT, evOT_eq q h1]
  · split at h
    · cases h
    · rename_i hb
      obtain ⟨a', b', h1, h2, rfl⟩ := two_eq q h
      funext sm h0
      simp only [stepT, evT, h1, h2]
      rw [if_neg hb]
  · split at h
    · cases h
    · rename_i hb
      obtain ⟨a', b', c', h1, h2, h3, rfl⟩ := three_eq q h
      funext sm h0
      simp only [stepT, evT, h1, h2, h3]
      rw [if_neg hb]
  · cases h
  · cases h
  · rename_i h1 h2 h3 h4 h5 h6
    obtain ⟨a', h7, rfl⟩ := om h
    funext sm h0
    unfold stepT
    split
    · exact absurd rfl (h1 _ _)
    · exact absurd rfl (h2 _ _ _)
    · exact absurd rfl (h3 _ _ _ _)
    · exact absurd rfl (h4 _ _ _ _ _ _)
    · exact absurd rfl (h5 _ _ _ _)
    · exact absurd rfl (h6 _ _ _ _)
    · simp only [evT, q.e _ _ _ h7]
theorem clv_eq : ∀ n : Nat, CEq g C (lvN g C n) (clv g n)
  | 0 => ⟨fun sc e c h => (by cases h), fun sc e c h => (by cases h)⟩
  | n + 1 => ⟨fun sc e c h => stepE_eq (clv_eq n) h, fun sc e c h => stepT_eq (clv_eq n) h⟩
end
end Mn
end

section
set_option autoImplicit false
set_option linter.all false
set_option maxRecDepth 100000
set_option maxHeartbeats 1000000
/-! statements with slots; functions -/
namespace Mn
open PySem PySem.Spec L2
inductive CS where
  | ps | bk | ct | ex (e : CE) | rn | rt (e : CE) | set (i : Nat) (e : CE) | att (o : CE) (k : Nat) (e : CE) | sub (o i e : CE) | unp (tg : CT) (e : CE) | aug (o i e : CE)
  | ite (t : CE) (a b : List CS) | whl (t : CE) (b : List CS) | for_ (tg : CT) (kind : Nat) (it : List CE) (b : List CS) | rs (c : Nat) (e : CE) | trS (d : Nat) (s : Sim) (b : List CS) | trF (d c : Nat) (b : List CS)
def forC (tg : CT) (it : It) (b : MSt → MH → SR) : Nat → Nat → MSt → MH → SR
  | 0, _, _, _ => .err
  | m + 1, k, sm, h => match it.at k h with
    | none => .err
    | some none => .nx sm h
    | some (some x) => match asgC tg x sm with
      | none => .err
      | some sm1 => match b sm1 h with
        | .nx sm2 h2 => forC tg it b m (k + 1) sm2 h2
        | .ct sm2 h2 => forC tg it b m (k + 1) sm2 h2
        | .bk sm2 h2 => .nx sm2 h2
        | x => x
mutual
def evS (g : GS) (C : CallS) : CS → MSt → MH → SR
  | .ps, sm, h => .nx sm h
  | .bk, sm, h => .bk sm h
  | .ct, sm, h => .ct sm h
  | .ex e, sm, h => (evE g C e sm h).then' sm fun _ h1 => .nx sm h1
  | .rn, _, h => .rt .non h
  | .rt e, sm, h => (evE g C e sm h).then' sm fun v h1 => .rt v h1
  | .set i e, sm, h => (evE g C e sm h).then' sm fun v h1 => .nx (sm.set i (some v)) h1
  | .att o k e, sm, h => (evE g C e sm h).then' sm fun v h1 => (evE g C o sm h1).then' sm fun x h2 => match x with
      | .ref a => match h2[a]? with
        | some (.ins c fs) => if fs.length < 1000 ∧ g.own c = true then .nx sm (h2.set a (.ins c (fput fs k v))) else .err
        | _ => .err
      | _ => .err
  | .sub o i e, sm, h => (evE g C e sm h).then' sm fun v h1 => (evE g C o sm h1).then' sm fun x h2 => (evE g C i sm h2).then' sm fun y h3 => match setM h3 x y v with
      | some h4 => .nx sm h4
      | none => .err
  | .unp tg e, sm, h => (evE g C e sm h).then' sm fun v h1 => match asgC tg v sm with
        | some sm1 => .nx sm1 h1
        | none => .err
  | .aug o i e, sm, h => (evE g C o sm h).then' sm fun x h1 => (evE g C i sm h1).then' sm fun y h2 => match gtM h2 x y with
    | some old => (evE g C e sm h2).then' sm fun v h3 => match old, v with
      | .int p, .int q => match setM h3 x y (.int (p + q)) with
        | some h4 => .nx sm h4
        | none => .err
      | _, _ => .err
    | none => .err
  | .ite t a b, sm, h => (evT g C t sm h).then' sm fun k h1 => if k then evB g C a sm h1 else evB g C b sm h1
  | .whl t b, sm, h => whM (fun sm h => evT g C t sm h) (fun sm h => evB g C b sm h) whFuel sm h
  | .for_ tg kind it b, sm, h => (evI g C kind it sm h).then' sm fun it h1 => forC tg it (fun sm h => evB g C b sm h) (it.fuel h1) 0 sm h1
  | .rs c e, sm, h => (evE g C e sm h).then' sm fun _ h1 => .ex ⟨c, []⟩ sm h1
  | .trS d s b, sm, h => match evB g C b sm h with
    | .ex e sm1 h1 => match isA g e.cls d with
      | some true => match s with
        | .rt v => .rt v h1
        | .ct => .ct sm1 h1
        | .ps => .nx sm1 h1
      | some false => .ex e sm1 h1
      | none => .err
    | x => x
  | .trF d c b, sm, h => match evB g C b sm h with
    | .ex e sm1 h1 => match isA g e.cls d with
      | some true => .ex ⟨c, []⟩ sm1 h1
      | some false => .ex e sm1 h1
      | none => .err
    | x => x
def evB (g : GS) (C : CallS) : List CS → MSt → MH → SR
  | [], sm, h => .nx sm h
  | st :: r, sm, h => match evS g C st sm h with
    | .nx sm' h' => evB g C r sm' h'
    | x => x
end
abbrev CLs := SC → Stmt → Option CS
def cstepS (g : GS) (M : CLv) (L : CLs) (sc : SC) (st : Stmt) : Option CS := match st with
  | .Pass _ => some .ps
  | .Break _ => some .bk
  | .Continue _ => some .ct
  | .Expr e _ => if isLc e then none else (M.e sc e).map .ex
  | .Return none _ => some .rn
  | .Return (some e) _ => (M.e sc e).map .rt
  | .Assign [tg] e _ => match tg with
    | .Name x _ => match sc.slotA x, M.e sc e with
      | some i, some e' => some (.set i e')
      | _, _ => none
    | .Attribute o f _ => match g.attr? f, M.e sc o, M.e sc e with
      | some k, some o', some e' => some (.att o' k e')
      | _, _, _ => none
    | .Subscript o i _ => if isSl i then none else match M.e sc o, M.e sc i, M.e sc e with
      | some o', some i', some e' => some (.sub o' i' e')
      | _, _, _ => none
    | .Tuple es k p => match e with
      | .Tuple _ _ _ => none
      | e => if isLc e then none else match cTg sc (.Tuple es k p), M.e sc e with
        | some tg', some e' => some (.unp tg' e')
        | _, _ => none
    | _ => none
  | .AugAssign (.Subscript o i _) op e _ => if isSl i || !isAdd op then none else match M.e sc o, M.e sc i, M.e sc e with
      | some o', some i', some e' => some (.aug o' i' e')
      | _, _, _ => none
  | .If t a b _ => match M.t sc t, mapO (L sc) a, mapO (L sc) b with
      | some t', some a', some b' => some (.ite t' a' b')
      | _, _, _ => none
  | .While t b [] _ => match M.t sc t, mapO (L sc) b with
      | some t', some b' => some (.whl t' b')
      | _, _ => none
  | .For tg iter b [] _ => if isSet iter then none else match cTg sc tg, cIt g sc (M.e sc) iter, mapO (L sc) b with
      | some tg', some (kind, it), some b' => some (.for_ tg' kind it b')
      | _, _, _ => none
  | .Raise (some (.Call (.Name x _) [e] [] _)) none _ => match g.cls? x with
    | some c => if sc.gl x && (isExc g c && plainA [e]) then (M.e sc e).map (.rs c) else none
    | none => none
  | .Try body [.ExceptHandler (some (.Name x _)) none suite _] [] [] _ => match g.cls? x with
    | some d => if sc.gl x && (isExc g d && !sc.md) then
      match fromS suite with
      | some y => match g.cls? y with
        | some c => if sc.gl y && (isExc g c && sc.tp) then (mapO (L { sc with md := true, tp := false }) body).map (.trF d c) else none
        | none => none
      | none => match simS suite with
        | some s => (mapO (L { sc with tp := false }) body).map (.trS d s)
        | none => none
      else none
    | none => none
  | _ => none
def cls (g : GS) (M : CLv) : Nat → CLs
  | 0 => fun _ _ => none
  | n + 1 => cstepS g M (cls g M n)
/-- a def's body -/
def cBody (g : GS) (f : FI) : Option (List CS) := mapO (cls g (clv g deepE) deepS ⟨f.N, f.scope, f.cn, true, true⟩) f.body
section
variable {g : GS} {C : CallS} {sc : SC} {L : LvS} {K : CLs}
theorem exB_eq (q : ∀ sc st c, K sc st = some c → L sc st = evS g C c) : ∀ {b : List Stmt} {l : List CS}, mapO (K sc) b = some l → exB (L sc) b = evB g C l
  | [], l, h => by cases h; funext sm h; simp only [exB, evB]
  | st :: r, l, h => by
    obtain ⟨c, t, h1, h2, rfl⟩ := mapO_cons h
    funext sm h
    simp only [exB, evB, q _ _ _ h1, exB_eq q h2]
    all_goals rfl
theorem forM_eq {tg : Expr} {t : CT} (h : cTg sc tg = some t) (it : It) (b : MSt → MH → SR) : ∀ (m k : Nat) (sm : MSt) (h0 : MH), forM sc tg it b m k sm h0 = forC t it b m k sm h0
  | 0, k, sm, h0 => rfl
  | m + 1, k, sm, h0 => by
    unfold forM forC
    rw [asg_eq h]
    have ih := forM_eq h it b m
    cases it.at k h0 with
    | none => rfl
    | some o =>
      cases o with
      | none => rfl
      | some x =>
        dsimp only
        cases asgC t x sm with
        | none => rfl
        | some sm1 =>
          dsimp only
          cases b sm1 h0 <;> first | rfl | exact ih _ _ _
theorem stepS_eq (q : ∀ sc st c, K sc st = some c → L sc st = evS g C c) {st : Stmt} {c : CS} (h : cstepS g (clv g deepE) K sc st = some c) : stepS g (ev g C) L sc st = evS g C c := by
  have E := clv_eq (g := g) (C := C) deepE
  unfold cstepS at h
  split at h
  · cases h; funext sm h0; simp only [stepS, evS]
  · cases h; funext sm h0; simp only [stepS, evS]
  · cases h; funext sm h0; simp only [stepS, evS]
  · split at h
    · cases h
    · rename_i hb
      obtain ⟨e', h1, rfl⟩ := om h
      funext sm h0
      simp only [stepS, evS, E.e _ _ _ h1]
      rw [if_neg hb]
  · cases h; funext sm h0; simp only [stepS, evS]
  · obtain ⟨e', h1, rfl⟩ := om h
    funext sm h0
    simp only [stepS, evS, E.e _ _ _ h1]
  · split at h
    · split at h
      · rename_i i e' h1 h2
        cases h
        funext sm h0
        simp only [stepS, evS, E.e _ _ _ h2, h1]
      · cases h
    · split at h
      · rename_i k o' e' h1 h2 h3
        cases h
        funext sm h0
        simp only [stepS, evS, E.e _ _ _ h2, E.e _ _ _ h3, h1]
        congr 1
        funext v hh
        congr 1
        funext x h2
        cases x with
        | ref a =>
          dsimp only
          cases h2[a]? with
          | none => rfl
          | some o => cases o <;> rfl
        | _ => rfl
      · cases h
    · split at h
      · cases h
      · rename_i hb
        split at h
        · rename_i o' i' e' h1 h2 h3
          cases h
          funext sm h0
          simp only [stepS, evS, E.e _ _ _ h1, E.e _ _ _ h2, E.e _ _ _ h3]
          rw [if_neg hb]
          all_goals rfl
        · cases h
    · split at h
      · cases h
      · rename_i hne
        split at h
        · cases h
        · rename_i hb
          split at h
          · rename_i tg' e' h1 h2
            cases h
            funext sm h0
            simp only [evS]
            unfold stepS
            dsimp only
            split
            · exact absurd rfl (hne _ _ _)
            · rw [if_neg hb, E.e _ _ _ h2, asg_eq h1]
              all_goals rfl
          · cases h
    · cases h
  · split at h
    · cases h
    · rename_i hb
      split at h
      · rename_i o' i' e' h1 h2 h3
        cases h
        funext sm h0
        simp only [stepS, evS, E.e _ _ _ h1, E.e _ _ _ h2, E.e _ _ _ h3]
        rw [if_neg hb]
        all_goals rfl
      · cases h
  · split at h
    · rename_i t' a' b' h1 h2 h3
      cases h
      funext sm h0
      simp only [stepS, evS, E.t _ _ _ h1, exB_eq q h2, exB_eq q h3]
    · cases h
  · split at h
    · rename_i t' b' h1 h2
      cases h
      funext sm h0
      simp only [stepS, evS, E.t _ _ _ h1, exB_eq q h2]
    · cases h
  · split at h
    · cases h
    · rename_i hb
      split at h
      · rename_i tg' kind it b' h1 h2 h3
        cases h
        funext sm h0
        simp only [stepS, evS, evI_eq E h2, exB_eq q h3]
        rw [if_neg hb]
        congr 1
        funext it hh
        exact forM_eq h1 it _ _ _ _ _
      · cases h
  · split at h
    · rename_i c' hc
      split at h
      · rename_i hb
        obtain ⟨e', h1, rfl⟩ := om h
        funext sm h0
        simp only [stepS, evS, hc, E.e _ _ _ h1]
        rw [if_pos hb]
      · cases h
    · cases h
  · split at h
    · rename_i d hd
      split at h
      · rename_i hb
        split at h
        · rename_i y hy
          split at h
          · rename_i c' hc
            split at h
            · rename_i hk
              obtain ⟨b', h1, rfl⟩ := om h
              funext sm h0
              simp only [stepS, evS, hd, hy, hc, exB_eq q h1]
              rw [if_pos hb, if_pos hk]
              all_goals rfl
            · cases h
          · cases h
        · rename_i hy
          split at h
          · rename_i s hs
            obtain ⟨b', h1, rfl⟩ := om h
            funext sm h0
            simp only [stepS, evS, hd, hy, hs, exB_eq q h1]
            rw [if_pos hb]
            all_goals rfl
          · cases h
      · cases h
    · cases h
  · cases h
theorem cls_eq : ∀ (n : Nat) (sc : SC) (st : Stmt) (c : CS), cls g (clv g deepE) n sc st = some c → lvS g (ev g C) n sc st = evS g C c
  | 0, sc, st, c, h => by cases h
  | n + 1, sc, st, c, h => stepS_eq (cls_eq n) h
/-- a def run -/
def runC (g : GS) (C : CallS) (N : Nat) (b : List CS) (vs : List MV) (h : MH) : Res MV := match evB g C b (vs.map some ++ List.replicate (N - vs.length) none) h with
  | .nx _ h1 => .ok .non h1
  | .rt v h1 => .ok v h1
  | .ex e _ h1 => .ex e h1
  | _ => .err
theorem run_eq {f : FI} {b : List CS} (h : cBody g f = some b) (vs : List MV) (h0 : MH) : runF g C f vs h0 = runC g C f.N.length b vs h0 := by
  unfold runF runC
  rw [exB_eq (cls_eq deepS) h]
  rfl
theorem callF_eq {n i : Nat} {f : FI} {b : List CS} (hf : g.funs[i]? = some f) (h : cBody g f = some b) (vs : List MV) (h0 : MH) : callF g (n + 1) i vs h0 = runC g (callF g n) f.N.length b vs h0 := by
  rw [show callF g (n + 1) i vs h0 = runF g (callF g n) f vs h0 by simp only [callF, hf]]
  exact run_eq h vs h0
end
end Mn
end

section
set_option autoImplicit false
set_option linter.all false
set_option maxRecDepth 100000
set_option maxHeartbeats 1000000
/-! calls over the compiled text -/
namespace Mn
open PySem PySem.Spec L2
/-- the defs: how many slots, the body -/
abbrev Tb := List (Nat × List CS)
def callC (g : GS) (T : Tb) : Nat → CallS
  | 0 => fun _ _ _ => .err
  | k + 1 => fun i vs h => match T[i]? with
    | some (n, b) => runC g (callC g T k) n b vs h
    | none => .err
/-- the table is that of the program -/
def tbOk (g : GS) : List FI → Tb → Prop
  | [], [] => True
  | f :: fs, p :: T => cBody g f = some p.2 ∧ f.N.length = p.1 ∧ tbOk g fs T
  | _, _ => False
theorem tb_at {g : GS} : ∀ {fs : List FI} {T : Tb}, tbOk g fs T → ∀ i : Nat, (∃ (f : FI) (p : Nat × List CS), fs[i]? = some f ∧ T[i]? = some p ∧ cBody g f = some p.2 ∧ f.N.length = p.1) ∨ (fs[i]? = none ∧ T[i]? = none)
  | [], [], _, i => .inr ⟨by simp, by simp⟩
  | f :: fs, p :: T, h, 0 => .inl ⟨f, p, rfl, rfl, h.1, h.2.1⟩
  | f :: fs, p :: T, h, i + 1 => by simpa using tb_at h.2.2 i
  | [], _ :: _, h, _ => h.elim
  | _ :: _, [], h, _ => h.elim
theorem callC_eq {g : GS} {T : Tb} (h : tbOk g g.funs T) : ∀ n, callF g n = callC g T n
  | 0 => rfl
  | n + 1 => by
    funext i vs h0
    have ih := callC_eq h n
    rcases tb_at h i with ⟨f, p, h1, h2, h3, h4⟩ | ⟨h1, h2⟩
    · rw [callF_eq h1 h3, ih, h4]
      simp only [callC, h2]
    · simp only [callF, callC, h1, h2]
def resB : Res MV → Nat
  | .ok (.bl true) _ => 1
  | .ok (.bl false) _ => 2
  | .ok _ _ => 3
  | .ex _ _ => 4
  | .err => 5
end Mn
end

section
set_option autoImplicit false
set_option linter.all false
set_option maxRecDepth 100000
set_option maxHeartbeats 1000000
/-! plain lemmas over the compiled semantics -/
namespace Mn
open PySem PySem.Spec L2
/-- more objects behind -/
def Ext (h h' : MH) : Prop := ∃ g, h' = h ++ g
theorem Ext.refl {h : MH} : Ext h h := ⟨[], by simp⟩
theorem Ext.trans {a b c : MH} (x : Ext a b) (y : Ext b c) : Ext a c := by
  obtain ⟨g, rfl⟩ := x
  obtain ⟨g2, rfl⟩ := y
  exact ⟨g ++ g2, by simp⟩
theorem Ext.app {h g : MH} : Ext h (h ++ g) := ⟨g, rfl⟩
theorem Ext.get {h h' : MH} (x : Ext h h') {a : Nat} {o : MO} (e : h[a]? = some o) : h'[a]? = some o := by
  obtain ⟨g, rfl⟩ := x
  rw [List.getElem?_append_left (List.getElem?_eq_some_iff.mp e).1]
  exact e
theorem Ext.len {h h' : MH} (x : Ext h h') : h.length ≤ h'.length := by
  obtain ⟨g, rfl⟩ := x
  simp
theorem get_new {h : MH} {o : MO} : (h ++ [o])[h.length]? = some o := by simp
theorem get_mid {h g : MH} {o : MO} : (h ++ o :: g)[h.length]? = some o := by simp
theorem set_mid {h g : MH} {o p : MO} : (h ++ o :: g).set h.length p = h ++ p :: g := by simp
/-! ### loops -/
section
variable {tg : CT} {it : It} {b : MSt → MH → SR}
/-- a loop that always goes on -/
theorem forC_inv (n : Nat) (I : Nat → MSt → MH → Prop) (go : ∀ k sm h, k < n → I k sm h → ∃ x sm1, it.at k h = some (some x) ∧ asgC tg x sm = some sm1 ∧ ∃ sm2 h2, (b sm1 h = .nx sm2 h2 ∨ b sm1 h = .ct sm2 h2) ∧ I (k + 1) sm2 h2)
    (stop : ∀ sm h, I n sm h → it.at n h = some none) : ∀ (d k m : Nat) (sm : MSt) (h : MH), k + d = n → d < m → I k sm h → ∃ sm' h', forC tg it b m k sm h = .nx sm' h' ∧ I n sm' h'
  | 0, k, m + 1, sm, h, e, _, i => by
    have e : k = n := by omega
    subst e
    refine ⟨sm, h, ?_, i⟩
    unfold forC
    rw [stop sm h i]
  | d + 1, k, m + 1, sm, h, e, hm, i => by
    obtain ⟨x, sm1, h1, h2, sm2, h3, h4, h5⟩ := go k sm h (by omega) i
    obtain ⟨sm', h', h6, h7⟩ := forC_inv n I go stop d (k + 1) m sm2 h3 (by omega) (by omega) h5
    refine ⟨sm', h', ?_, h7⟩
    unfold forC
    rw [h1]
    dsimp only
    rw [h2]
    dsimp only
    rcases h4 with h4 | h4 <;> rw [h4] <;> exact h6
  | _, _, 0, _, _, _, hm, _ => by omega
theorem forC_run (n : Nat) (I : Nat → MSt → MH → Prop) {m : Nat} {sm : MSt} {h : MH} (hm : n < m) (i : I 0 sm h) (go : ∀ k sm h, k < n → I k sm h → ∃ x sm1, it.at k h = some (some x) ∧ asgC tg x sm = some sm1 ∧ ∃ sm2 h2, (b sm1 h = .nx sm2 h2 ∨ b sm1 h = .ct sm2 h2) ∧ I (k + 1) sm2 h2)
    (stop : ∀ sm h, I n sm h → it.at n h = some none) : ∃ sm' h', forC tg it b m 0 sm h = .nx sm' h' ∧ I n sm' h' := forC_inv n I go stop n 0 m sm h (by omega) hm i
end
section
variable {tg : CT} {it : It} {et : MSt → MH → Res Bool} {ee : MSt → MH → Res MV} {sm : MSt} {D : Nat}
/-- a comprehension, by an invariant of the turn, the new list's items, the heap -/
theorem lcC_inv (n : Nat) (I : Nat → List MV → MH → Prop) (go : ∀ k acc h, k < n → I k acc h → ∃ x sm2, it.at k h = some (some x) ∧ asgC tg x sm = some sm2 ∧ ∃ b h2, et sm2 h = .ok b h2 ∧
      (b = true → ∃ y h3, ee sm2 h2 = .ok y h3 ∧ h3[D]? = some (.lst acc) ∧ acc.length < lim ∧ I (k + 1) (acc ++ [y]) (h3.set D (.lst (acc ++ [y])))) ∧ (b = false → I (k + 1) acc h2))
    (stop : ∀ acc h, I n acc h → it.at n h = some none) : ∀ (d k m : Nat) (acc : List MV) (h : MH), k + d = n → d < m → I k acc h → ∃ acc' h', lcC et ee tg sm it D m k h = .ok (.ref D) h' ∧ I n acc' h'
  | 0, k, m + 1, acc, h, e, _, i => by
    have e : k = n := by omega
    subst e
    refine ⟨acc, h, ?_, i⟩
    unfold lcC
    rw [stop acc h i]
  | d + 1, k, m + 1, acc, h, e, hm, i => by
    obtain ⟨x, sm2, h1, h2, b, h3, h4, h5, h6⟩ := go k acc h (by omega) i
    unfold lcC
    rw [h1]
    dsimp only
    rw [h2]
    dsimp only
    rw [h4]
    cases b with
    | false =>
      obtain ⟨acc', h', h7, h8⟩ := lcC_inv n I go stop d (k + 1) m acc h3 (by omega) (by omega) (h6 rfl)
      exact ⟨acc', h', h7, h8⟩
    | true =>
      obtain ⟨y, h9, h10, h11, h12, h13⟩ := h5 rfl
      obtain ⟨acc', h', h7, h8⟩ := lcC_inv n I go stop d (k + 1) m (acc ++ [y]) _ (by omega) (by omega) h13
      refine ⟨acc', h', ?_, h8⟩
      show (noEx (ee sm2 h3)).bind _ = _
      rw [h10]
      show (match h9[D]? with
        | some (.lst acc) => if acc.length < lim then lcC et ee tg sm it D m (k + 1) (h9.set D (.lst (acc ++ [y]))) else .err
        | _ => .err) = _
      rw [h11]
      dsimp only
      rw [if_pos h12]
      exact h7
  | _, _, 0, _, _, _, hm, _ => by omega
/-- a comprehension whose tests and items only lay new things -/
theorem lcC_fm {h0 : MH} (xs : List MV) (f : MV → Option MV) {m : Nat} (hm : xs.length < m) (hl : xs.length < lim) (hit : ∀ H k, Ext h0 H → it.at k H = some xs[k]?)
    (step : ∀ x ∈ xs, ∃ sm2, asgC tg x sm = some sm2 ∧ ∀ H, Ext h0 H → ∃ b g2, et sm2 H = .ok b (H ++ g2) ∧ (b = true → ∃ y g3, ee sm2 (H ++ g2) = .ok y (H ++ g2 ++ g3) ∧ f x = some y) ∧ (b = false → f x = none)) :
    ∃ g, lcC et ee tg sm it h0.length m 0 (h0 ++ [.lst []]) = .ok (.ref h0.length) (h0 ++ .lst (xs.filterMap f) :: g) := by
  have fin := lcC_inv (tg := tg) (it := it) (et := et) (ee := ee) (sm := sm) (D := h0.length) xs.length (fun k acc h => ∃ g, h = h0 ++ .lst acc :: g ∧ acc = (xs.take k).filterMap f) (by
    rintro k acc h hk ⟨g, rfl, ha⟩
    have hx : xs[k]? = some xs[k] := List.getElem?_eq_getElem hk
    obtain ⟨sm2, h2, h3⟩ := step xs[k] (List.getElem_mem hk)
    have hE : Ext h0 (h0 ++ .lst acc :: g) := Ext.app
    have et : xs.take (k + 1) = xs.take k ++ [xs[k]] := by rw [List.take_add_one, hx]; rfl
    obtain ⟨b, g2, h4, h5, h6⟩ := h3 _ hE
    refine ⟨xs[k], sm2, by rw [hit _ k hE, hx], h2, b, _, h4, fun hb => ?_, fun hb => ?_⟩
    · obtain ⟨y, g3, h7, h8⟩ := h5 hb
      refine ⟨y, _, h7, ?_, ?_, g ++ g2 ++ g3, ?_, ?_⟩
      · simp
      · rw [ha]
        have := List.length_filterMap_le f (xs.take k)
        have h9 : (xs.take k).length ≤ xs.length := by rw [List.length_take]; omega
        omega
      · simp
      · rw [et, List.filterMap_append, ha]
        simp [h8]
    · refine ⟨g ++ g2, by simp, ?_⟩
      rw [et, List.filterMap_append, ha]
      simp [h6 hb]) (by
    rintro acc h ⟨g, rfl, ha⟩
    rw [hit _ _ Ext.app]
    simp) xs.length 0 m [] (h0 ++ [.lst []]) (by omega) hm ⟨[], rfl, by simp⟩
  obtain ⟨acc, h', h1, g, h2, h3⟩ := fin
  refine ⟨g, ?_⟩
  rw [h1, h2, h3, List.take_length]
end
theorem at_seq {h0 : MH} {xs : List MV} (H : MH) (k : Nat) (_ : Ext h0 H) : (It.seq xs).at k H = some xs[k]? := rfl
theorem at_lst {h0 : MH} {xs : List MV} {a : Nat} (e : h0[a]? = some (.lst xs)) (H : MH) (k : Nat) (x : Ext h0 H) : (It.lst a).at k H = some xs[k]? := by
  simp only [It.at, x.get e]
/-! ### numbers as texts -/
open TL (numL)
theorem tl_int (n : Nat) : tl (Str.ofString (toString (n : Int))) = numL n := TL.tl_num n
/-- six figures -/
def six (n : Nat) : List Nat := List.replicate (6 - (numL n).length) 48 ++ numL n
theorem six_len {n : Nat} (h : n < 1000000) : (six n).length = 6 := by
  have := TL.numL_len (n := n) (k := 6) (by decide) (by simpa using h)
  unfold six
  simp
  omega
theorem six_dig {n : Nat} : NumText.AllDigits (six n) := by
  intro c hc
  unfold six at hc
  rcases List.mem_append.mp hc with hc | hc
  · rw [List.mem_replicate] at hc
    rw [hc.2]
    decide
  · exact TL.numL_digits n c hc
theorem val_app (a b : List Nat) : NumText.digitsVal (a ++ b) = b.foldl (fun acc c => acc * 10 + (c - 48)) (NumText.digitsVal a) := by
  unfold NumText.digitsVal
  rw [List.foldl_append]
theorem val_zeros (k : Nat) : NumText.digitsVal (List.replicate k 48) = 0 := by
  induction k with
  | zero => rfl
  | succ k ih =>
    rw [List.replicate_succ', val_app, ih]
    rfl
theorem six_val (n : Nat) : NumText.digitsVal (six n) = n := by
  unfold six
  rw [val_app, val_zeros]
  exact TL.numL_val n
theorem int_digits {s : List Nat} (h : NumText.AllDigits s) (h1 : s ≠ []) (h2 : s.length ≤ 640) : PySem.intText? (⟨s.toArray⟩ : Str) = some ((NumText.digitsVal s : Nat) : Int) := by
  have := intText_digits (x := (⟨s.toArray⟩ : Str)) (by simpa using h) (by simpa using h1) (by simp [Str.length]; omega)
  simpa using this
/-- texts of figures of one length are in the order of their numbers -/
theorem val_lt : ∀ {a b : List Nat}, NumText.AllDigits a → NumText.AllDigits b → a.length = b.length → ∀ x y : Nat, a.foldl (fun acc c => acc * 10 + (c - 48)) x < b.foldl (fun acc c => acc * 10 + (c - 48)) y → x < y ∨ (x = y ∧ a < b)
  | [], [], _, _, _, x, y, h => .inl h
  | c :: a, d :: b, ha, hb, hl, x, y, h => by
    have hc := ha.head
    have hd := hb.head
    rw [List.foldl_cons, List.foldl_cons] at h
    rcases val_lt ha.tail hb.tail (by simpa using hl) _ _ h with h1 | ⟨h1, h2⟩
    · by_cases hxy : x < y
      · exact .inl hxy
      · right
        have hx : x = y := by omega
        refine ⟨hx, List.cons_lt_cons_iff.mpr (.inl (by omega))⟩
    · by_cases hxy : x < y
      · exact .inl hxy
      · right
        have hx : x = y := by omega
        have hcd : c = d := by omega
        exact ⟨hx, List.cons_lt_cons_iff.mpr (.inr ⟨hcd, h2⟩)⟩
  | [], _ :: _, _, _, hl, _, _, _ => by simp at hl
  | _ :: _, [], _, _, hl, _, _, _ => by simp at hl
theorem six_lt {m n : Nat} (hm : m < 1000000) (hn : n < 1000000) (h : m < n) : six m < six n := by
  have := val_lt (six_dig (n := m)) (six_dig (n := n)) (by rw [six_len hm, six_len hn]) 0 0 (by
    have h1 := six_val m
    have h2 := six_val n
    unfold NumText.digitsVal at h1 h2
    rw [h1, h2]; exact h)
  rcases this with h | h
  · exact absurd h (by decide)
  · exact h.2
theorem six_inj {m n : Nat} (h : six m = six n) : m = n := by rw [← six_val m, ← six_val n, h]
end Mn
end

section
set_option autoImplicit false
set_option linter.all false
set_option maxRecDepth 100000
set_option maxHeartbeats 1000000
/-! single steps of the compiled semantics, for simp -/
namespace Mn
open PySem PySem.Spec L2
section
variable {α β : Type} {h : MH} {a : α} {f : α → MH → Res β} {e : MX} {sm : MSt} {F : α → MH → SR}
theorem bind_ok : (Res.ok a h).bind f = f a h := rfl
theorem bind_ex : (Res.ex (α := α) e h).bind f = .ex e h := rfl
theorem bind_err : (Res.err (α := α)).bind f = .err := rfl
theorem then_ok : (Res.ok a h).then' sm F = F a h := rfl
theorem then_ex : (Res.ex (α := α) e h).then' sm F = .ex e sm h := rfl
theorem then_err : (Res.err (α := α)).then' sm F = .err := rfl
theorem opt_some : opt (some a) h = .ok a h := rfl
theorem opt_none : opt (none : Option α) h = .err := rfl
theorem gd_f {r : Res α} : guardR false r = r := by cases r <;> rfl
theorem gd_ok {b : Bool} : guardR b (Res.ok a h) = .ok a h := rfl
end
section
variable {h : MH} {i j : Int} {s t : List Nat} {x y : MV} {xs ys : List MV} {a : Nat} {kvs : List (MK × MV)} {p q : Bool}
theorem t_non : truth h .non = some false := rfl
theorem t_bl : truth h (.bl p) = some p := rfl
theorem t_int : truth h (.int i) = some (i != 0) := rfl
theorem t_str (hl : s.length ≤ lim) : truth h (.str s) = some (!s.isEmpty) := if_pos hl
theorem t_tup : truth h (.tup xs) = some (!xs.isEmpty) := rfl
theorem t_lst (e : h[a]? = some (.lst xs)) : truth h (.ref a) = some (!xs.isEmpty) := by simp only [truth, e]
theorem b_ss (hl : s.length + t.length ≤ lim) : binM .Add h (.str s) (.str t) = .ok (.str (s ++ t)) h := if_pos hl
theorem b_ii : binM .Add h (.int i) (.int j) = .ok (.int (i + j)) h := rfl
theorem b_sub : binM .Sub h (.int i) (.int j) = .ok (.int (i - j)) h := rfl
theorem b_mul (c : (-(2 ^ 64) < i ∧ i < 2 ^ 64) ∨ (-(2 ^ 64) < j ∧ j < 2 ^ 64)) : binM .Mult h (.int i) (.int j) = .ok (.int (i * j)) h := if_pos c
theorem b_rep (c : s.length ≤ 16 ∧ -(2 ^ 63 : Int) ≤ i ∧ i ≤ 1048576) : binM .Mult h (.str s) (.int i) = .ok (.str (List.replicate i.toNat s).flatten) h := if_pos c
theorem b_div (c : 0 < j ∧ j < 1073741824) : binM .FloorDiv h (.int i) (.int j) = .ok (.int (i / j)) h := if_pos c
theorem b_mod (c : 0 < j) : binM .Mod h (.int i) (.int j) = .ok (.int (i % j)) h := if_pos c
theorem b_pow (c : 0 ≤ j ∧ j ≤ 1000000 ∧ i.natAbs < 2 ^ 64) : binM .Pow h (.int i) (.int j) = .ok (.int (i ^ j.toNat)) h := if_pos c
theorem b_ll {b : Nat} (e1 : h[a]? = some (.lst xs)) (e2 : h[b]? = some (.lst ys)) (c : xs.length + ys.length ≤ lim) : binM .Add h (.ref a) (.ref b) = .ok (.ref h.length) (h ++ [.lst (xs ++ ys)]) := by
  simp only [binM, e1, e2]
  rw [if_pos c]
  rfl
theorem c_eq_i : cmpV .Eq h (.int i) (.int j) = some (decide (i = j)) := rfl
theorem c_ne_i : cmpV .NotEq h (.int i) (.int j) = some (!decide (i = j)) := rfl
theorem c_eq_s : cmpV .Eq h (.str s) (.str t) = some (decide (s = t)) := rfl
theorem c_ne_s : cmpV .NotEq h (.str s) (.str t) = some (!decide (s = t)) := rfl
theorem c_eq_b : cmpV .Eq h (.bl p) (.bl q) = some (decide (p = q)) := rfl
theorem c_ne_b : cmpV .NotEq h (.bl p) (.bl q) = some (!decide (p = q)) := rfl
theorem c_lt_i : cmpV .Lt h (.int i) (.int j) = some (decide (i < j)) := rfl
theorem c_gt_i : cmpV .Gt h (.int i) (.int j) = some (decide (j < i)) := rfl
theorem c_le_i : cmpV .LtE h (.int i) (.int j) = some (!decide (j < i)) := rfl
theorem c_ge_i : cmpV .GtE h (.int i) (.int j) = some (!decide (i < j)) := rfl
theorem m_lt_i : cmpM .Lt h (.int i) (.int j) = some (decide (i < j)) := rfl
theorem m_le_i : cmpM .LtE h (.int i) (.int j) = some (!decide (j < i)) := rfl
theorem m_le_s : cmpM .LtE h (.str s) (.str t) = some (!decide (t < s)) := rfl
theorem c_is_n : cmpV .Is h x .non = isM x .non := rfl
theorem c_isn_n : cmpV .IsNot h x .non = (isM x .non).map (!·) := rfl
theorem c_is_b : cmpV .Is h (.bl p) (.bl q) = some (decide (p = q)) := rfl
theorem c_isn_b : cmpV .IsNot h (.bl p) (.bl q) = some (!decide (p = q)) := rfl
theorem is_n : isM .non .non = some true := rfl
theorem is_i : isM (.int i) .non = some false := rfl
theorem is_s : isM (.str s) .non = some false := rfl
theorem is_b : isM (.bl p) .non = some false := rfl
theorem is_t : isM (.tup xs) .non = some false := rfl
theorem is_r : isM (.ref a) .non = some false := rfl
theorem c_in_c {c : Nat} : cmpV .In h (.str [c]) (.str t) = some (decide (c ∈ t)) := rfl
theorem c_nin_c {c : Nat} : cmpV .NotIn h (.str [c]) (.str t) = some (!decide (c ∈ t)) := rfl
theorem c_in_d (e : h[a]? = some (.dK kvs)) : cmpV .In h (.str s) (.ref a) = some (dget kvs (.s s)).isSome := by
  simp only [cmpV, isDict, e, if_true, dictAsk, k1, Option.map_some]
theorem c_nin_d (e : h[a]? = some (.dK kvs)) : cmpV .NotIn h (.str s) (.ref a) = some (!(dget kvs (.s s)).isSome) := by
  simp only [cmpV, isDict, e, if_true, dictAsk, k1, Option.map_some]
theorem l_s (hl : s.length ≤ lim) : bltM .len h [.str s] = .ok (.int s.length) h := by simp only [bltM, lenM, if_pos hl]
theorem l_t : bltM .len h [.tup xs] = .ok (.int xs.length) h := rfl
theorem l_l (e : h[a]? = some (.lst xs)) : bltM .len h [.ref a] = .ok (.int xs.length) h := by simp only [bltM, lenM, e]
theorem s_i (c : i.natAbs.log2 < 1920) : bltM .str h [.int i] = .ok (.str (tl (Str.ofString (toString i)))) h := if_pos c
theorem i_i : bltM .int h [.int i] = .ok (.int i) h := rfl
theorem i_s {n : Int} (c : s.length ≤ 640) (e : PySem.intText? ⟨s.toArray⟩ = some n) : bltM .int h [.str s] = .ok (.int n) h := by simp only [bltM, if_pos c, e]
theorem o_c {c : Nat} : bltM .ord h [.str [c]] = .ok (.int c) h := rfl
theorem sl_s {lo hi : Option Int} (hl : s.length ≤ lim) : slM h (.str s) lo hi = .ok (.str (cutL s lo hi)) h := if_pos hl
theorem sl_l {lo hi : Option Int} (e : h[a]? = some (.lst xs)) : slM h (.ref a) lo hi = .ok (.ref h.length) (h ++ [.lst (cutL xs lo hi)]) := by simp only [slM, e, lay]
theorem ix_l (e : h[a]? = some (.lst xs)) : ixM h (.ref a) (.int i) = atI xs i := by simp only [ixM, e]
theorem ix_d (e : h[a]? = some (.dK kvs)) : ixM h (.ref a) y = (k1 y).bind fun q => dget kvs q := by simp only [ixM, e]
theorem ix_t : ixM h (.tup xs) (.int i) = atI xs i := rfl
theorem ix_s (hl : s.length ≤ lim) : ixM h (.str s) (.int i) = (atI s i).map fun c => .str [c] := if_pos hl
theorem atI_nat {α : Type} {l : List α} {n : Nat} {z : α} (e : l[n]? = some z) : atI l (n : Int) = some z := by
  have hl := (List.getElem?_eq_some_iff.mp e).1
  unfold atI ixN
  rw [if_pos (by omega), if_pos (by omega), Int.toNat_natCast]
  exact e
theorem ty_n : tyM h .non = some "NoneType" := rfl
theorem ty_b : tyM h (.bl p) = some "bool" := rfl
theorem ty_i : tyM h (.int i) = some "int" := rfl
theorem ty_s : tyM h (.str s) = some "str" := rfl
theorem ty_t : tyM h (.tup xs) = some "tuple" := rfl
theorem ty_l (e : h[a]? = some (.lst xs)) : tyM h (.ref a) = some "list" := by simp only [tyM, e]
end
end Mn
end

section
set_option linter.all false
set_option maxRecDepth 100000
set_option maxHeartbeats 0
namespace Pg
open PySem PySem.Spec L2 Mn
def tops : List Stmt := PySem.Challenge.pw_desksagree_k65_whole_names_of_files_ther.main.body
def clss : List Str := ["DeskError", "InvalidNumber", "UnknownName", "InvalidPaper", "Disk"]
def attrs : List Str := ["_kept", "_late", "_names", "_sure", "_changes", "_next"]
def data : List (List Str × Bool) := ([(["k"], true), (["text", "found", "sign"], true), (["text", "sign"], true), (["text"], true), (["text", "at", "end", "word", "sign"], true), (["text", "at", "first", "second", "start", "end", "inside"], true), (["text", "found", "at", "frame"], true), (["text"], true), (["value", "least", "most"], true), (["value", "least", "most"], true), (["age", "word"], true), (["name", "figures", "sign"], true), (["age", "page", "mark"], true), (["text", "words", "page", "found", "told", "word", "sign"], false), (["self"], true), (["self"], true), (["self", "name"], true), (["self", "name"], true), (["self", "name", "at"], true), (["self", "name"], true)] : List (List Str × Bool)) ++
 ([(["self", "name"], true), (["self", "name"], true), (["self", "row"], true), (["self", "name", "text", "at"], true), (["self", "name"], true), (["self"], true), (["self", "one", "other"], true), (["self", "name"], true), (["self", "name", "size"], true), (["self"], true), (["self", "name"], true), (["self"], true), (["self"], true), (["self", "changes", "tears"], true), (["names", "changes", "found", "word", "one", "other"], true), (["number"], true), (["row", "place"], true), (["key", "parts", "at", "sign"], true), (["first", "word"], true), (["disk", "name"], true)] : List (List Str × Bool)) ++
 ([(["name", "figures", "sign"], true), (["name"], true), (["number", "word"], true), (["name", "figures", "sign"], true), (["disk", "name"], true), (["name"], true), (["disk", "name"], true), (["disk", "name"], true), (["state", "limit", "cell", "value"], true), (["actual", "expected", "k"], true), (["state", "things", "rest", "k"], true), (["state", "taken", "letters", "name", "k"], true), (["state", "many", "found", "k"], true), (["number"], true), (["kind", "number"], false), (["kind", "name"], false), (["script", "state", "some", "parts", "snaps", "pages", "name", "kind", "word", "disk", "number", "page", "mark", "text", "names", "keys", "k", "row", "place", "key", "day"], false)] : List (List Str × Bool))
def funs : List FI := ((defsOf tops).zip data).map fun p => ⟨p.1, p.2.1, p.2.2⟩
def consts : List (Str × MV) := [("GREAT", (.int 1000003)), ("STEP", (.int 8191)), ("MOST", (.int 1000000)), ("GREATEST", (.int 1000000)), ("SPOILT", (.str [63]))]
def excs : List (Nat × List Nat) := [(0, [0]), (1, [1, 0]), (2, [2, 0]), (3, [3, 0])]
def blts : List Str := ["len", "str", "int", "ord", "list", "dict", "sorted", "bool", "tuple", "isinstance", "set", "range"]
def gs : GS := ⟨⟨clss, attrs⟩, funs, consts, excs, blts⟩
def c0 : List CS := [.whl (.tv (.k (.bl true))) [.ps]]
def c1 : List CS := [.set 1 (.k (.int 7)),
  .for_ (.one 2) 0 [.v 0] [.set 1 (.bin .Mod (.bin .Add (.bin .Mult (.v 1) (.k (.int 8191))) (.blt .ord [.v 2])) (.k (.int 1000003)))],
  .rt (.v 1)]
def c2 : List CS := [.ite (.tbo .Or [.tnot (.tv (.isi (.v 0) ["str"])), .tcmp .Gt (.blt .len [.v 0]) (.k (.int 1000000))]) [.rs 3 (.k (.str [110, 111, 32, 116, 101, 120, 116]))] [],
  .ite (.tv (.lc (.v 1) (.one 1) 0 [.v 0] [.tbo .Or [.tcmp .Eq (.v 1) (.k (.str [63])), .tbo .And [.tcmp .NotEq (.v 1) (.k (.str [10])), .tnot (.tch .LtE .LtE (.k (.str [32])) (.v 1) (.k (.str [126])))]]] [1])) [.rs 3 (.k (.str [110, 111, 32, 115, 105, 103, 110]))] [],
  .rt (.v 0)]
def c3 : List CS := [.ex (.call 2 [.v 0] [] false),
  .rt (.bin .Add (.bin .Add (.bin .Add (.bin .Add (.bin .Add (.blt .str [.blt .len [.v 0]]) (.k (.str [58]))) (.blt .str [.call 1 [.v 0] [] false])) (.k (.str [58]))) (.v 0)) (.k (.str [10])))]
def c4 : List CS := [.set 2 (.met (.v 0) [] (some .find) none none [.k (.str [58]), .v 1]),
  .set 3 (.ite (.tch .Lt .LtE (.v 1) (.v 2) (.bin .Add (.v 1) (.k (.int 7)))) (.sl (.v 0) (some (.v 1)) (some (.v 2))) (.k (.str []))),
  .ite (.tbo .Or [.tcmp .Eq (.v 3) (.k (.str [])), .tv (.lc (.v 4) (.one 4) 0 [.v 3] [.tcmp .NotIn (.v 4) (.k (.str [48, 49, 50, 51, 52, 53, 54, 55, 56, 57]))] [4])]) [.rt (.k .non)] [],
  .ite (.tbo .And [.tcmp .Gt (.blt .len [.v 3]) (.k (.int 1)), .tcmp .Eq (.ix (.v 3) (.k (.int 0))) (.k (.str [48]))]) [.rt (.k .non)] [],
  .rt (.tup [.blt .int [.v 3], .bin .Add (.v 2) (.k (.int 1))])]
def c5 : List CS := [.set 2 (.call 4 [.v 0, .v 1] [] false),
  .set 3 (.ite (.tcmp .Is (.v 2) (.k .non)) (.k .non) (.call 4 [.v 0, .ix (.v 2) (.k (.int 1))] [] false)),
  .ite (.tbo .Or [.tcmp .Is (.v 3) (.k .non), .tcmp .Gt (.ix (.v 2) (.k (.int 0))) (.k (.int 1000000))]) [.rt (.k .non)] [],
  .set 4 (.ix (.v 3) (.k (.int 1))),
  .set 5 (.bin .Add (.v 4) (.ix (.v 2) (.k (.int 0)))),
  .set 6 (.sl (.v 0) (some (.v 4)) (some (.v 5))),
  .ite (.tbo .Or [.tcmp .NotEq (.blt .len [.v 6]) (.ix (.v 2) (.k (.int 0))), .tcmp .NotEq (.sl (.v 0) (some (.v 5)) (some (.bin .Add (.v 5) (.k (.int 1))))) (.k (.str [10])), .tcmp .In (.k (.str [63])) (.v 6), .tcmp .NotEq (.call 1 [.v 6] [] false) (.ix (.v 3) (.k (.int 0)))]) [.rt (.k .non)] [],
  .rt (.tup [.v 6, .bin .Add (.v 5) (.k (.int 1))])]
def c6 : List CS := [.set 1 (.lst []),
  .set 2 (.k (.int 0)),
  .set 3 (.call 5 [.v 0, .v 2] [] false),
  .whl (.tcmp .IsNot (.v 3) (.k .non)) [.ex (.met (.v 1) [] none (some .append) none [.ix (.v 3) (.k (.int 0))]),
  .set 2 (.ix (.v 3) (.k (.int 1))),
  .set 3 (.call 5 [.v 0, .v 2] [] false)],
  .rt (.tup [.v 1, .v 2])]
def c7 : List CS := [.rt (.cmp .Eq (.ix (.call 6 [.v 0] [] false) (.k (.int 1))) (.blt .len [.v 0]))]
def c8 : List CS := [.ite (.tbo .Or [.tv (.isi (.v 0) ["bool"]), .tnot (.tv (.isi (.v 0) ["int"]))]) [.rt (.k (.bl false))] [],
  .rt (.chain .LtE .LtE (.v 1) (.v 0) (.v 2))]
def c9 : List CS := [.ite (.tnot (.tv (.call 8 [.v 0, .v 1, .v 2] [] false))) [.rs 1 (.bin .Add (.bin .Add (.bin .Add (.k (.str [110, 111, 32, 110, 117, 109, 98, 101, 114, 32, 102, 114, 111, 109, 32])) (.blt .str [.v 1])) (.k (.str [32, 116, 111, 32]))) (.blt .str [.v 2]))] [],
  .rt (.v 0)]
def c10 : List CS := [.set 1 (.blt .str [.call 9 [.v 0, .k (.int 0), .k (.int 999999)] [] false]),
  .rt (.bin .Add (.bin .Add (.k (.str [112, 97, 103, 101, 115, 46])) (.bin .Mult (.k (.str [48])) (.bin .Sub (.k (.int 6)) (.blt .len [.v 1])))) (.v 1))]
def c11 : List CS := [.set 1 (.sl (.v 0) (some (.k (.int 6))) none),
  .ite (.tbo .Or [.tnot (.tv (.met (.v 0) [] (some .startswith) none none [.k (.str [112, 97, 103, 101, 115, 46])])), .tcmp .NotEq (.blt .len [.v 1]) (.k (.int 6))]) [.rt (.k (.bl false))] [],
  .rt (.not (.lc (.v 2) (.one 2) 0 [.v 1] [.tcmp .NotIn (.v 2) (.k (.str [48, 49, 50, 51, 52, 53, 54, 55, 56, 57]))] [2]))]
def c12 : List CS := [.ex (.call 9 [.v 0, .k (.int 0), .k (.int 999999)] [] false),
  .ex (.call 9 [.v 2] [(.int 0), (.int 1000000)] false),
  .ite (.tcmp .IsNot (.v 1) (.k .non)) [.ex (.call 9 [.v 1] [(.int 0), (.int 1000000)] false)] [],
  .rt (.bin .Add (.bin .Add (.bin .Add (.bin .Add (.blt .str [.v 0]) (.k (.str [32]))) (.ite (.tcmp .Is (.v 1) (.k .non)) (.k (.str [45])) (.blt .str [.v 1]))) (.k (.str [32]))) (.blt .str [.v 2]))]
def c13 : List CS := [.set 1 (.met (.v 0) [] (some .split) none none [.k (.str [32])]),
  .ite (.tbo .Or [.tcmp .NotEq (.blt .len [.v 1]) (.k (.int 3)), .tcmp .In (.k (.str [])) (.v 1)]) [.rs 3 (.k (.str [110, 111, 32, 114, 111, 111, 116]))] [],
  .ite (.tv (.lc (.v 5) (.one 5) 0 [.v 1] [.tv (.lc (.v 6) (.one 6) 0 [.v 5] [.tcmp .NotIn (.v 6) (.k (.str [45, 48, 49, 50, 51, 52, 53, 54, 55, 56, 57]))] [6])] [5])) [.rs 3 (.k (.str [110, 111, 32, 114, 111, 111, 116]))] [],
  .ite (.tbo .Or [.tcmp .In (.k (.str [45])) (.bin .Add (.ix (.v 1) (.k (.int 0))) (.ix (.v 1) (.k (.int 2)))), .tbo .And [.tcmp .In (.k (.str [45])) (.ix (.v 1) (.k (.int 1))), .tcmp .NotEq (.ix (.v 1) (.k (.int 1))) (.k (.str [45]))]]) [.rs 3 (.k (.str [110, 111, 32, 114, 111, 111, 116]))] [],
  .set 2 (.ite (.tcmp .Eq (.ix (.v 1) (.k (.int 1))) (.k (.str [45]))) (.k .non) (.blt .int [.ix (.v 1) (.k (.int 1))])),
  .set 3 (.tup [.blt .int [.ix (.v 1) (.k (.int 0))], .v 2, .blt .int [.ix (.v 1) (.k (.int 2))]]),
  .trF 1 3 [.set 4 (.call 12 [.ix (.v 3) (.k (.int 0)), .ix (.v 3) (.k (.int 1)), .ix (.v 3) (.k (.int 2))] [] false)],
  .ite (.tcmp .NotEq (.v 4) (.v 0)) [.rs 3 (.k (.str [110, 111, 32, 114, 111, 111, 116]))] [],
  .rt (.v 3)]
def c14 : List CS := [.att (.v 0) 0 (.dct),
  .att (.v 0) 1 (.dct),
  .att (.v 0) 2 (.dct),
  .att (.v 0) 3 (.dct),
  .att (.v 0) 4 (.lst []),
  .att (.v 0) 5 (.k (.int 0))]
def c15 : List CS := [.rt (.blt .sorted [.attr (.v 0) 2])]
def c16 : List CS := [.rt (.cmp .In (.v 1) (.attr (.v 0) 2))]
def c17 : List CS := [.ite (.tcmp .NotIn (.v 1) (.attr (.v 0) 2)) [.rs 2 (.k (.str [102, 105, 108, 101]))] [],
  .rt (.ix (.attr (.v 0) 2) (.v 1))]
def c18 : List CS := [.set 2 (.met (.v 0) [⟨4, 17, [], false, true⟩] none none none [.v 1]),
  .rt (.bin .Add (.ix (.attr (.v 0) 0) (.v 2)) (.ix (.attr (.v 0) 1) (.v 2)))]
def c19 : List CS := [.ex (.call 0 [.k (.int 0)] [] false)]
def c20 : List CS := [.rt (.blt .len [.ix (.attr (.v 0) 0) (.met (.v 0) [⟨4, 17, [], false, true⟩] none none none [.v 1])])]
def c21 : List CS := [.ite (.tbo .Or [.tnot (.tv (.isi (.v 1) ["str"])), .tcmp .Eq (.v 1) (.k (.str [])), .tcmp .In (.v 1) (.attr (.v 0) 2)]) [.rs 3 (.k (.str [110, 111, 32, 110, 101, 119, 32, 102, 105, 108, 101]))] [],
  .sub (.attr (.v 0) 0) (.attr (.v 0) 5) (.k (.str [])),
  .sub (.attr (.v 0) 1) (.attr (.v 0) 5) (.k (.str [])),
  .ex (.met (.v 0) [⟨4, 22, [], false, true⟩] none none none [.tup [.k (.str [109, 97, 107, 101]), .v 1, .attr (.v 0) 5]]),
  .att (.v 0) 5 (.bin .Add (.attr (.v 0) 5) (.k (.int 1)))]
def c22 : List CS := [.ex (.met (.attr (.v 0) 4) [] none (some .append) none [.v 1]),
  .att (.v 0) 2 (.call 34 [.attr (.v 0) 2, .lst [.v 1]] [] false)]
def c23 : List CS := [.set 3 (.met (.v 0) [⟨4, 17, [], false, true⟩] none none none [.v 1]),
  .ite (.tbo .Or [.tnot (.tv (.isi (.v 2) ["str"])), .tcmp .In (.k (.str [63])) (.v 2)]) [.rs 3 (.k (.str [110, 111, 32, 116, 101, 120, 116]))] [],
  .sub (.attr (.v 0) 1) (.v 3) (.bin .Add (.ix (.attr (.v 0) 1) (.v 3)) (.v 2))]
def c24 : List CS := [.ex (.call 0 [.k (.int 1)] [] false)]
def c25 : List CS := [.ex (.call 0 [.k (.int 2)] [] false)]
def c26 : List CS := [.ex (.met (.v 0) [⟨4, 17, [], false, true⟩] none none none [.v 1]),
  .ite (.tbo .Or [.tcmp .Eq (.v 1) (.v 2), .tnot (.tv (.isi (.v 2) ["str"])), .tcmp .Eq (.v 2) (.k (.str []))]) [.rs 3 (.k (.str [110, 111, 32, 110, 97, 109, 101]))] [],
  .ex (.met (.v 0) [⟨4, 22, [], false, true⟩] none none none [.tup [.k (.str [109, 111, 118, 101]), .v 1, .v 2]])]
def c27 : List CS := [.ex (.call 0 [.k (.int 3)] [] false)]
def c28 : List CS := [.ex (.call 0 [.k (.int 4)] [] false)]
def c29 : List CS := [.ex (.call 0 [.k (.int 5)] [] false)]
def c30 : List CS := [.ex (.call 0 [.k (.int 6)] [] false)]
def c31 : List CS := [.ex (.call 0 [.k (.int 7)] [] false)]
def c32 : List CS := [.ex (.call 0 [.k (.int 8)] [] false)]
def c33 : List CS := [.ex (.call 0 [.k (.int 9)] [] false)]
def c34 : List CS := [.set 2 (.blt .dict [.v 0]),
  .for_ (.many [3, 4, 5]) 0 [.v 1] [.ite (.tcmp .Eq (.v 3) (.k (.str [109, 97, 107, 101]))) [.sub (.v 2) (.v 4) (.v 5)] [.ite (.tcmp .Eq (.v 3) (.k (.str [109, 111, 118, 101]))) [.sub (.v 2) (.v 5) (.met (.v 2) [] none (some .pop) (some .pop) [.v 4])] [.ex (.met (.v 2) [] none (some .pop) (some .pop) [.v 4])]]],
  .rt (.v 2)]
def c35 : List CS := [.ite (.tnot (.tv (.call 8 [.v 0, .k (.int 0), .k (.int 999999)] [] false))) [.rs 3 (.k (.str [110, 111, 32, 110, 117, 109, 98, 101, 114]))] [],
  .rt (.bin .Add (.bin .Mult (.k (.str [48])) (.bin .Sub (.k (.int 6)) (.blt .len [.blt .str [.v 0]]))) (.blt .str [.v 0]))]
def c36 : List CS := [.rt (.met (.k (.str [47])) [] (some .join) none none [.lst [.ix (.v 0) (.k (.int 3)), .call 35 [.ix (.v 0) (.k (.int 2))] [] false, .ix (.v 0) (.k (.int 0)), .call 35 [.ix (.v 0) (.k (.int 1))] [] false, .call 35 [.v 1] [] false]])]
def c37 : List CS := [.set 1 (.met (.v 0) [] (some .split) none none [.k (.str [47])]),
  .ite (.tcmp .NotEq (.blt .len [.v 1]) (.k (.int 5))) [.rs 3 (.k (.str [110, 111, 32, 107, 101, 121]))] [],
  .for_ (.one 2) 0 [.tup [.k (.int 1), .k (.int 3), .k (.int 4)]] [.ite (.tbo .Or [.tcmp .NotEq (.blt .len [.ix (.v 1) (.v 2)]) (.k (.int 6)), .tv (.lc (.v 3) (.one 3) 0 [.ix (.v 1) (.v 2)] [.tcmp .NotIn (.v 3) (.k (.str [48, 49, 50, 51, 52, 53, 54, 55, 56, 57]))] [3])]) [.rs 3 (.k (.str [110, 111, 32, 107, 101, 121]))] []],
  .rt (.tup [.ix (.v 1) (.k (.int 0)), .blt .int [.ix (.v 1) (.k (.int 1))], .ix (.v 1) (.k (.int 2)), .blt .int [.ix (.v 1) (.k (.int 3))], .blt .int [.ix (.v 1) (.k (.int 4))]])]
def c38 : List CS := [.set 1 (.blt .str [.call 9 [.v 0, .k (.int 0), .k (.int 999999)] [] false]),
  .rt (.bin .Add (.bin .Add (.k (.str [108, 111, 103, 46])) (.bin .Mult (.k (.str [48])) (.bin .Sub (.k (.int 6)) (.blt .len [.v 1])))) (.v 1))]
def c39 : List CS := [.rt (.lc (.v 1) (.one 1) 0 [.met (.v 0) [⟨4, 15, [], false, true⟩] none none none []] [.tv (.call 40 [.v 1] [] false)] [1])]
def c40 : List CS := [.set 1 (.sl (.v 0) (some (.k (.int 4))) none),
  .rt (.bo .And [.met (.v 0) [] (some .startswith) none none [.k (.str [108, 111, 103, 46])], .cmp .Eq (.blt .len [.v 1]) (.k (.int 6)), .not (.lc (.v 2) (.one 2) 0 [.v 1] [.tcmp .NotIn (.v 2) (.k (.str [48, 49, 50, 51, 52, 53, 54, 55, 56, 57]))] [2])])]
def c41 : List CS := [.ite (.tnot (.tv (.call 40 [.v 0] [] false))) [.rs 3 (.k (.str [110, 111, 32, 112, 97, 114, 116]))] [],
  .rt (.blt .int [.sl (.v 0) (some (.k (.int 4))) none])]
def c42 : List CS := [.set 1 (.blt .str [.call 9 [.v 0, .k (.int 0), .k (.int 999999)] [] false]),
  .rt (.bin .Add (.bin .Add (.k (.str [115, 110, 97, 112, 46])) (.bin .Mult (.k (.str [48])) (.bin .Sub (.k (.int 6)) (.blt .len [.v 1])))) (.v 1))]
def c43 : List CS := [.set 1 (.sl (.v 0) (some (.k (.int 5))) none),
  .rt (.bo .And [.met (.v 0) [] (some .startswith) none none [.k (.str [115, 110, 97, 112, 46])], .cmp .Eq (.blt .len [.v 1]) (.k (.int 6)), .not (.lc (.v 2) (.one 2) 0 [.v 1] [.tcmp .NotIn (.v 2) (.k (.str [48, 49, 50, 51, 52, 53, 54, 55, 56, 57]))] [2])])]
def c44 : List CS := [.rt (.lc (.v 1) (.one 1) 0 [.met (.v 0) [⟨4, 15, [], false, true⟩] none none none []] [.tv (.call 43 [.v 1] [] false)] [1])]
def c45 : List CS := [.ite (.tnot (.tv (.call 43 [.v 0] [] false))) [.rs 3 (.k (.str [110, 111, 32, 115, 110, 97, 112, 115, 104, 111, 116]))] [],
  .rt (.blt .int [.sl (.v 0) (some (.k (.int 5))) none])]
def c46 : List CS := [.rt (.lc (.blt .int [.sl (.v 1) (some (.k (.int 6))) none]) (.one 1) 0 [.met (.v 0) [⟨4, 15, [], false, true⟩] none none none []] [.tv (.call 11 [.v 1] [] false)] [1])]
def c47 : List CS := [.rt (.lc (.call 45 [.v 1] [] false) (.one 1) 0 [.call 44 [.v 0] [] false] [] [1])]
def c48 : List CS := [.ite (.tbo .And [.tcmp .Eq (.ix (.v 0) (.k (.int 2))) (.k (.int 0)), .tcmp .Lt (.ix (.v 0) (.k (.int 1))) (.blt .len [.ix (.v 0) (.k (.int 0))])]) [.set 2 (.ix (.ix (.v 0) (.k (.int 0))) (.ix (.v 0) (.k (.int 1)))),
  .aug (.v 0) (.k (.int 1)) (.k (.int 1)),
  .ite (.tcmp .GtE (.v 2) (.bin .Pow (.k (.int 10)) (.k (.int 18)))) [.sub (.v 0) (.k (.int 2)) (.v 2)] [.sub (.v 0) (.k (.int 3)) (.bin .Mod (.blt .int [.bin .Add (.bin .Add (.bin .Mult (.ix (.v 0) (.k (.int 3))) (.k (.int 48271))) (.bin .Mod (.blt .int [.v 2]) (.k (.int 2147483647)))) (.k (.int 7))]) (.k (.int 2147483647)))]] [],
  .ite (.tcmp .Gt (.ix (.v 0) (.k (.int 2))) (.k (.int 0))) [.set 3 (.bin .Mod (.blt .int [.ix (.v 0) (.k (.int 2))]) (.v 1)),
  .sub (.v 0) (.k (.int 2)) (.bin .FloorDiv (.ix (.v 0) (.k (.int 2))) (.v 1)),
  .rt (.v 3)] [],
  .sub (.v 0) (.k (.int 3)) (.bin .Mod (.blt .int [.bin .Add (.bin .Mult (.ix (.v 0) (.k (.int 3))) (.k (.int 69621))) (.k (.int 12345))]) (.k (.int 2147483647))),
  .rt (.bin .Mod (.blt .int [.bin .FloorDiv (.ix (.v 0) (.k (.int 3))) (.k (.int 7))]) (.v 1))]
def c49 : List CS := [.ite (.tcmp .Is (.v 1) (.k .non)) [.rt (.cmp .Is (.v 0) (.k .non))] [],
  .ite (.tv (.isi (.v 1) ["bool"])) [.rt (.bo .And [.isi (.v 0) ["bool"], .cmp .Eq (.v 0) (.v 1)])] [],
  .ite (.tv (.isi (.v 1) ["int"])) [.rt (.bo .And [.isi (.v 0) ["int"], .not (.isi (.v 0) ["bool"]), .cmp .Eq (.v 0) (.v 1)])] [],
  .ite (.tv (.isi (.v 1) ["str"])) [.rt (.bo .And [.isi (.v 0) ["str"], .cmp .Eq (.v 0) (.v 1)])] [],
  .ite (.tbo .And [.tv (.isi (.v 1) ["tuple"]), .tnot (.tv (.isi (.v 0) ["tuple"]))]) [.rt (.k (.bl false))] [],
  .ite (.tbo .And [.tv (.isi (.v 1) ["list"]), .tnot (.tv (.isi (.v 0) ["list"]))]) [.rt (.k (.bl false))] [],
  .ite (.tcmp .NotEq (.blt .len [.v 0]) (.blt .len [.v 1])) [.rt (.k (.bl false))] [],
  .for_ (.one 2) 1 [.blt .len [.v 1]] [.ite (.tnot (.tv (.call 49 [.ix (.v 0) (.v 2), .ix (.v 1) (.v 2)] [] false))) [.rt (.k (.bl false))] []],
  .rt (.k (.bl true))]
def c50 : List CS := [.set 2 (.blt .list [.v 1]),
  .rt (.lc (.met (.v 2) [] none (some .pop) (some .pop) [.call 48 [.v 0, .blt .len [.v 2]] [] false]) (.one 3) 1 [.blt .len [.v 1]] [] [3])]
def c51 : List CS := [.set 2 (.k (.str [97, 98, 99, 100, 101, 102, 103, 104, 105, 106, 107, 108, 109, 110, 111, 112, 113, 114, 115, 116, 117, 118, 119, 120, 121, 122])),
  .set 3 (.met (.k (.str [])) [] (some .join) none none [.lc (.ix (.v 2) (.call 48 [.v 0, .k (.int 26)] [] false)) (.one 4) 1 [.bin .Add (.k (.int 1)) (.call 48 [.v 0, .k (.int 8)] [] false)] [] [4]]),
  .ite (.tcmp .In (.v 3) (.v 1)) [.set 3 (.bin .Add (.bin .Add (.k (.str [113, 113, 113, 113, 113, 113, 113, 113])) (.ix (.v 2) (.bin .FloorDiv (.blt .len [.v 1]) (.k (.int 26))))) (.ix (.v 2) (.bin .Sub (.blt .len [.v 1]) (.bin .Mult (.k (.int 26)) (.bin .FloorDiv (.blt .len [.v 1]) (.k (.int 26)))))))] [],
  .rt (.v 3)]
def c52 : List CS := [.set 2 (.lst []),
  .for_ (.one 3) 1 [.v 1] [.ex (.met (.v 2) [] none (some .append) none [.call 51 [.v 0, .v 2] [] false])],
  .rt (.v 2)]
def c53 : List CS := [.rt (.sl (.bin .Add (.k (.str [48, 48, 48, 48, 48])) (.blt .str [.v 0])) (some (.neg (.k (.int 6)))) none)]
def c54 : List CS := [.trS 1 (.rt (.bl true)) [.ite (.tcmp .Eq (.v 0) (.k (.str [112, 97, 114, 116]))) [.ex (.call 38 [.v 1] [] false)] [.ite (.tcmp .Eq (.v 0) (.k (.str [115, 110, 97, 112]))) [.ex (.call 42 [.v 1] [] false)] [.ex (.call 10 [.v 1] [] false)]]],
  .rt (.k (.bl false))]
def c55 : List CS := [.trS 3 (.rt (.bl true)) [.ite (.tcmp .Eq (.v 0) (.k (.str [112, 97, 114, 116]))) [.ex (.call 41 [.v 1] [] false)] [.ex (.call 45 [.v 1] [] false)]],
  .rt (.k (.bl false))]
def c56 : List CS := [.set 1 (.lst [.blt .list [.v 0], .k (.int 0), .k (.int 0), .k (.int 1)]),
  .set 2 (.sset (.bin .Add (.lst [.k (.int 0), .k (.int 1), .k (.int 9), .k (.int 10), .k (.int 99999), .k (.int 100000), .k (.int 999999)]) (.lc (.call 48 [.v 1, .k (.int 1000000)] [] false) (.one 16) 1 [.k (.int 4)] [] [16]))),
  .set 3 (.lc (.bin .Add (.k (.str [108, 111, 103, 46])) (.call 53 [.v 10] [] false)) (.one 10) 0 [.v 2] [] [10]),
  .set 4 (.lc (.bin .Add (.k (.str [115, 110, 97, 112, 46])) (.call 53 [.v 10] [] false)) (.one 10) 0 [.v 2] [] [10]),
  .set 5 (.lc (.bin .Add (.k (.str [112, 97, 103, 101, 115, 46])) (.call 53 [.v 10] [] false)) (.one 10) 0 [.v 2] [] [10]),
  .ite (.tbo .Or [.tnot (.tv (.call 49 [.lc (.call 38 [.v 10] [] false) (.one 10) 0 [.v 2] [] [10], .v 3] [] false)), .tnot (.tv (.call 49 [.lc (.call 42 [.v 10] [] false) (.one 10) 0 [.v 2] [] [10], .v 4] [] false)), .tnot (.tv (.call 49 [.lc (.call 10 [.v 10] [] false) (.one 10) 0 [.v 2] [] [10], .v 5] [] false))]) [.rt (.k (.bl false))] [],
  .ite (.tbo .Or [.tnot (.tv (.call 49 [.lc (.call 41 [.v 6] [] false) (.one 6) 0 [.v 3] [] [6], .v 2] [] false)), .tnot (.tv (.call 49 [.lc (.call 45 [.v 6] [] false) (.one 6) 0 [.v 4] [] [6], .v 2] [] false))]) [.rt (.k (.bl false))] [],
  .ite (.tcmp .NotEq (.lc (.v 14) (.one 14) 0 [.lst [.v 3, .v 4, .v 5]] [.tcmp .NotEq (.v 14) (.blt .sorted [.v 14])] [14]) (.lst [])) [.rt (.k (.bl false))] [],
  .for_ (.one 6) 0 [.bin .Add (.bin .Add (.v 3) (.v 4)) (.v 5)] [.ite (.tbo .Or [.tcmp .NotEq (.call 40 [.v 6] [] false) (.cmp .In (.v 6) (.v 3)), .tcmp .NotEq (.call 43 [.v 6] [] false) (.cmp .In (.v 6) (.v 4)), .tcmp .NotEq (.call 11 [.v 6] [] false) (.cmp .In (.v 6) (.v 5))]) [.rt (.k (.bl false))] []],
  .for_ (.one 7) 0 [.lst [.k (.str [112, 97, 114, 116]), .k (.str [115, 110, 97, 112]), .k (.str [112, 97, 103, 101, 115])]] [.ite (.tcmp .NotEq (.lc (.v 10) (.one 10) 0 [.lst [.neg (.k (.int 1)), .k (.int 1000000)]] [.tnot (.tv (.call 54 [.v 7, .v 10] [] false))] [10]) (.lst [])) [.rt (.k (.bl false))] []],
  .for_ (.one 8) 0 [.lst [.k (.str [108, 111, 103, 46, 48, 48, 48, 48, 49]), .k (.str [108, 111, 103, 46, 48, 48, 48, 48, 48, 48, 49]), .k (.str [108, 111, 103, 46, 48, 48, 48, 48, 48, 97]), .k (.str [108, 111, 103, 48, 48, 48, 48, 48, 49]), .k (.str [76, 111, 103, 46, 48, 48, 48, 48, 48, 49]), .k (.str [115, 110, 97, 112, 46, 110, 101, 119]), .k (.str [115, 110, 97, 112, 46, 49]), .k (.str [115, 110, 97, 112, 46, 45, 48, 48, 48, 48, 49]), .k (.str [112, 97, 103, 101, 115, 46]), .k (.str [114, 111, 111, 116, 115]), .k (.str []), .k (.str [108, 111, 103, 46, 48, 48, 48, 48, 48, 49, 32])]] [.ite (.tbo .Or [.tv (.call 40 [.v 8] [] false), .tv (.call 43 [.v 8] [] false), .tv (.call 11 [.v 8] [] false), .tnot (.tv (.call 55 [.k (.str [112, 97, 114, 116]), .v 8] [] false)), .tnot (.tv (.call 55 [.k (.str [115, 110, 97, 112]), .v 8] [] false))]) [.rt (.k (.bl false))] []],
  .set 9 (.mk 4 14 [] [] false),
  .for_ (.one 6) 0 [.call 50 [.v 1, .bin .Add (.bin .Add (.bin .Add (.v 3) (.v 4)) (.v 5)) (.lst [.k (.str [114, 111, 111, 116, 115]), .k (.str [111, 116, 104, 101, 114])])] [] false] [.ex (.met (.v 9) [⟨4, 21, [], false, true⟩] none none none [.v 6])],
  .ite (.tbo .Or [.tnot (.tv (.call 49 [.call 39 [.v 9] [] false, .v 3] [] false)), .tnot (.tv (.call 49 [.call 44 [.v 9] [] false, .v 4] [] false)), .tnot (.tv (.call 49 [.call 46 [.v 9] [] false, .v 2] [] false)), .tnot (.tv (.call 49 [.call 47 [.v 9] [] false, .v 2] [] false))]) [.rt (.k (.bl false))] [],
  .for_ (.one 10) 0 [.sl (.v 2) none (some (.k (.int 6)))] [.for_ (.one 11) 0 [.lst [.k .non, .k (.int 0), .v 10]] [.set 12 (.call 48 [.v 1, .k (.int 1000000)] [] false),
  .set 13 (.bin .Add (.bin .Add (.bin .Add (.bin .Add (.blt .str [.v 10]) (.k (.str [32]))) (.ite (.tcmp .Is (.v 11) (.k .non)) (.k (.str [45])) (.blt .str [.v 11]))) (.k (.str [32]))) (.blt .str [.v 12])),
  .ite (.tbo .Or [.tnot (.tv (.call 49 [.call 12 [.v 10, .v 11, .v 12] [] false, .v 13] [] false)), .tnot (.tv (.call 49 [.call 13 [.v 13] [] false, .tup [.v 10, .v 11, .v 12]] [] false)), .tcmp .IsNot (.call 7 [.call 3 [.v 13] [] false] [] false) (.k (.bl true))]) [.rt (.k (.bl false))] []]],
  .for_ (.one 13) 0 [.lst [.k (.str []), .k (.str [49, 32, 50]), .k (.str [49, 32, 50, 32, 51, 32, 52]), .k (.str [97, 32, 49, 32, 49]), .k (.str [49, 32, 97, 32, 49]), .k (.str [48, 49, 32, 49, 32, 49]), .k (.str [49, 32, 49, 32, 45, 49]), .k (.str [45, 32, 49, 32, 49]), .k (.str [49, 32, 32, 49, 32, 49])]] [.trS 3 .ct [.ex (.call 13 [.v 13] [] false),
  .rt (.k (.bl false))]],
  .set 14 (.call 52 [.v 1, .k (.int 2)] [] false),
  .set 15 (.lst []),
  .for_ (.one 16) 1 [.k (.int 4)] [.set 17 (.tup [.ix (.v 14) (.k (.int 1)), .bin .Add (.k (.int 1)) (.call 48 [.v 1, .k (.int 100000)] [] false), .call 48 [.v 1, .k (.int 100001)] [] false, .bin .Add (.ix (.v 14) (.k (.int 0))) (.k (.str [46, 97])), .k (.int 5), .k (.str [103, 111, 111, 100])]),
  .set 18 (.call 48 [.v 1, .k (.int 12)] [] false),
  .set 19 (.bin .Add (.bin .Add (.bin .Add (.bin .Add (.bin .Add (.bin .Add (.bin .Add (.bin .Add (.ix (.v 17) (.k (.int 3))) (.k (.str [47]))) (.call 53 [.ix (.v 17) (.k (.int 2))] [] false)) (.k (.str [47]))) (.ix (.v 17) (.k (.int 0)))) (.k (.str [47]))) (.call 53 [.ix (.v 17) (.k (.int 1))] [] false)) (.k (.str [47]))) (.call 53 [.v 18] [] false)),
  .ite (.tbo .Or [.tnot (.tv (.call 49 [.call 36 [.v 17, .v 18] [] false, .v 19] [] false)), .tnot (.tv (.call 49 [.call 37 [.v 19] [] false, .tup [.ix (.v 17) (.k (.int 3)), .ix (.v 17) (.k (.int 2)), .ix (.v 17) (.k (.int 0)), .ix (.v 17) (.k (.int 1)), .v 18]] [] false))]) [.rt (.k (.bl false))] [],
  .ex (.met (.v 15) [] none (some .append) none [.tup [.ix (.v 17) (.k (.int 2)), .ix (.v 17) (.k (.int 1)), .v 18, .v 19]])],
  .ite (.tcmp .NotEq (.lc (.v 19) (.many [20, 10, 18, 19]) 0 [.blt .sorted [.v 15]] [] [20, 10, 18, 19]) (.blt .sorted [.lc (.ix (.v 17) (.k (.int 3))) (.one 17) 0 [.v 15] [] [17]])) [.rt (.k (.bl false))] [],
  .rt (.call 49 [.lc (.call 35 [.v 10] [] false) (.one 10) 0 [.v 2] [] [10], .lc (.call 53 [.v 10] [] false) (.one 10) 0 [.v 2] [] [10]] [] false)]
theorem cb0 : ((funs[0]?).bind (cBody gs)) = some c0 := by kernel_rfl
theorem n0 : (funs[0]?).map (fun f => f.N.length) = some 1 := by kernel_rfl
theorem cb1 : ((funs[1]?).bind (cBody gs)) = some c1 := by kernel_rfl
theorem n1 : (funs[1]?).map (fun f => f.N.length) = some 3 := by kernel_rfl
theorem cb2 : ((funs[2]?).bind (cBody gs)) = some c2 := by kernel_rfl
theorem n2 : (funs[2]?).map (fun f => f.N.length) = some 2 := by kernel_rfl
theorem cb3 : ((funs[3]?).bind (cBody gs)) = some c3 := by kernel_rfl
theorem n3 : (funs[3]?).map (fun f => f.N.length) = some 1 := by kernel_rfl
theorem cb4 : ((funs[4]?).bind (cBody gs)) = some c4 := by kernel_rfl
theorem n4 : (funs[4]?).map (fun f => f.N.length) = some 5 := by kernel_rfl
theorem cb5 : ((funs[5]?).bind (cBody gs)) = some c5 := by kernel_rfl
theorem n5 : (funs[5]?).map (fun f => f.N.length) = some 7 := by kernel_rfl
theorem cb6 : ((funs[6]?).bind (cBody gs)) = some c6 := by kernel_rfl
theorem n6 : (funs[6]?).map (fun f => f.N.length) = some 4 := by kernel_rfl
theorem cb7 : ((funs[7]?).bind (cBody gs)) = some c7 := by kernel_rfl
theorem n7 : (funs[7]?).map (fun f => f.N.length) = some 1 := by kernel_rfl
theorem cb8 : ((funs[8]?).bind (cBody gs)) = some c8 := by kernel_rfl
theorem n8 : (funs[8]?).map (fun f => f.N.length) = some 3 := by kernel_rfl
theorem cb9 : ((funs[9]?).bind (cBody gs)) = some c9 := by kernel_rfl
theorem n9 : (funs[9]?).map (fun f => f.N.length) = some 3 := by kernel_rfl
theorem cb10 : ((funs[10]?).bind (cBody gs)) = some c10 := by kernel_rfl
theorem n10 : (funs[10]?).map (fun f => f.N.length) = some 2 := by kernel_rfl
theorem cb11 : ((funs[11]?).bind (cBody gs)) = some c11 := by kernel_rfl
theorem n11 : (funs[11]?).map (fun f => f.N.length) = some 3 := by kernel_rfl
theorem cb12 : ((funs[12]?).bind (cBody gs)) = some c12 := by kernel_rfl
theorem n12 : (funs[12]?).map (fun f => f.N.length) = some 3 := by kernel_rfl
theorem cb13 : ((funs[13]?).bind (cBody gs)) = some c13 := by kernel_rfl
theorem n13 : (funs[13]?).map (fun f => f.N.length) = some 7 := by kernel_rfl
theorem cb14 : ((funs[14]?).bind (cBody gs)) = some c14 := by kernel_rfl
theorem n14 : (funs[14]?).map (fun f => f.N.length) = some 1 := by kernel_rfl
theorem cb15 : ((funs[15]?).bind (cBody gs)) = some c15 := by kernel_rfl
theorem n15 : (funs[15]?).map (fun f => f.N.length) = some 1 := by kernel_rfl
theorem cb16 : ((funs[16]?).bind (cBody gs)) = some c16 := by kernel_rfl
theorem n16 : (funs[16]?).map (fun f => f.N.length) = some 2 := by kernel_rfl
theorem cb17 : ((funs[17]?).bind (cBody gs)) = some c17 := by kernel_rfl
theorem n17 : (funs[17]?).map (fun f => f.N.length) = some 2 := by kernel_rfl
theorem cb18 : ((funs[18]?).bind (cBody gs)) = some c18 := by kernel_rfl
theorem n18 : (funs[18]?).map (fun f => f.N.length) = some 3 := by kernel_rfl
theorem cb19 : ((funs[19]?).bind (cBody gs)) = some c19 := by kernel_rfl
theorem n19 : (funs[19]?).map (fun f => f.N.length) = some 2 := by kernel_rfl
theorem cb20 : ((funs[20]?).bind (cBody gs)) = some c20 := by kernel_rfl
theorem n20 : (funs[20]?).map (fun f => f.N.length) = some 2 := by kernel_rfl
theorem cb21 : ((funs[21]?).bind (cBody gs)) = some c21 := by kernel_rfl
theorem n21 : (funs[21]?).map (fun f => f.N.length) = some 2 := by kernel_rfl
theorem cb22 : ((funs[22]?).bind (cBody gs)) = some c22 := by kernel_rfl
theorem n22 : (funs[22]?).map (fun f => f.N.length) = some 2 := by kernel_rfl
theorem cb23 : ((funs[23]?).bind (cBody gs)) = some c23 := by kernel_rfl
theorem n23 : (funs[23]?).map (fun f => f.N.length) = some 4 := by kernel_rfl
theorem cb24 : ((funs[24]?).bind (cBody gs)) = some c24 := by kernel_rfl
theorem n24 : (funs[24]?).map (fun f => f.N.length) = some 2 := by kernel_rfl
theorem cb25 : ((funs[25]?).bind (cBody gs)) = some c25 := by kernel_rfl
theorem n25 : (funs[25]?).map (fun f => f.N.length) = some 1 := by kernel_rfl
theorem cb26 : ((funs[26]?).bind (cBody gs)) = some c26 := by kernel_rfl
theorem n26 : (funs[26]?).map (fun f => f.N.length) = some 3 := by kernel_rfl
theorem cb27 : ((funs[27]?).bind (cBody gs)) = some c27 := by kernel_rfl
theorem n27 : (funs[27]?).map (fun f => f.N.length) = some 2 := by kernel_rfl
theorem cb28 : ((funs[28]?).bind (cBody gs)) = some c28 := by kernel_rfl
theorem n28 : (funs[28]?).map (fun f => f.N.length) = some 3 := by kernel_rfl
theorem cb29 : ((funs[29]?).bind (cBody gs)) = some c29 := by kernel_rfl
theorem n29 : (funs[29]?).map (fun f => f.N.length) = some 1 := by kernel_rfl
theorem cb30 : ((funs[30]?).bind (cBody gs)) = some c30 := by kernel_rfl
theorem n30 : (funs[30]?).map (fun f => f.N.length) = some 2 := by kernel_rfl
theorem cb31 : ((funs[31]?).bind (cBody gs)) = some c31 := by kernel_rfl
theorem n31 : (funs[31]?).map (fun f => f.N.length) = some 1 := by kernel_rfl
theorem cb32 : ((funs[32]?).bind (cBody gs)) = some c32 := by kernel_rfl
theorem n32 : (funs[32]?).map (fun f => f.N.length) = some 1 := by kernel_rfl
theorem cb33 : ((funs[33]?).bind (cBody gs)) = some c33 := by kernel_rfl
theorem n33 : (funs[33]?).map (fun f => f.N.length) = some 3 := by kernel_rfl
theorem cb34 : ((funs[34]?).bind (cBody gs)) = some c34 := by kernel_rfl
theorem n34 : (funs[34]?).map (fun f => f.N.length) = some 6 := by kernel_rfl
theorem cb35 : ((funs[35]?).bind (cBody gs)) = some c35 := by kernel_rfl
theorem n35 : (funs[35]?).map (fun f => f.N.length) = some 1 := by kernel_rfl
theorem cb36 : ((funs[36]?).bind (cBody gs)) = some c36 := by kernel_rfl
theorem n36 : (funs[36]?).map (fun f => f.N.length) = some 2 := by kernel_rfl
theorem cb37 : ((funs[37]?).bind (cBody gs)) = some c37 := by kernel_rfl
theorem n37 : (funs[37]?).map (fun f => f.N.length) = some 4 := by kernel_rfl
theorem cb38 : ((funs[38]?).bind (cBody gs)) = some c38 := by kernel_rfl
theorem n38 : (funs[38]?).map (fun f => f.N.length) = some 2 := by kernel_rfl
theorem cb39 : ((funs[39]?).bind (cBody gs)) = some c39 := by kernel_rfl
theorem n39 : (funs[39]?).map (fun f => f.N.length) = some 2 := by kernel_rfl
theorem cb40 : ((funs[40]?).bind (cBody gs)) = some c40 := by kernel_rfl
theorem n40 : (funs[40]?).map (fun f => f.N.length) = some 3 := by kernel_rfl
theorem cb41 : ((funs[41]?).bind (cBody gs)) = some c41 := by kernel_rfl
theorem n41 : (funs[41]?).map (fun f => f.N.length) = some 1 := by kernel_rfl
theorem cb42 : ((funs[42]?).bind (cBody gs)) = some c42 := by kernel_rfl
theorem n42 : (funs[42]?).map (fun f => f.N.length) = some 2 := by kernel_rfl
theorem cb43 : ((funs[43]?).bind (cBody gs)) = some c43 := by kernel_rfl
theorem n43 : (funs[43]?).map (fun f => f.N.length) = some 3 := by kernel_rfl
theorem cb44 : ((funs[44]?).bind (cBody gs)) = some c44 := by kernel_rfl
theorem n44 : (funs[44]?).map (fun f => f.N.length) = some 2 := by kernel_rfl
theorem cb45 : ((funs[45]?).bind (cBody gs)) = some c45 := by kernel_rfl
theorem n45 : (funs[45]?).map (fun f => f.N.length) = some 1 := by kernel_rfl
theorem cb46 : ((funs[46]?).bind (cBody gs)) = some c46 := by kernel_rfl
theorem n46 : (funs[46]?).map (fun f => f.N.length) = some 2 := by kernel_rfl
theorem cb47 : ((funs[47]?).bind (cBody gs)) = some c47 := by kernel_rfl
theorem n47 : (funs[47]?).map (fun f => f.N.length) = some 2 := by kernel_rfl
theorem cb48 : ((funs[48]?).bind (cBody gs)) = some c48 := by kernel_rfl
theorem n48 : (funs[48]?).map (fun f => f.N.length) = some 4 := by kernel_rfl
theorem cb49 : ((funs[49]?).bind (cBody gs)) = some c49 := by kernel_rfl
theorem n49 : (funs[49]?).map (fun f => f.N.length) = some 3 := by kernel_rfl
theorem cb50 : ((funs[50]?).bind (cBody gs)) = some c50 := by kernel_rfl
theorem n50 : (funs[50]?).map (fun f => f.N.length) = some 4 := by kernel_rfl
theorem cb51 : ((funs[51]?).bind (cBody gs)) = some c51 := by kernel_rfl
theorem n51 : (funs[51]?).map (fun f => f.N.length) = some 5 := by kernel_rfl
theorem cb52 : ((funs[52]?).bind (cBody gs)) = some c52 := by kernel_rfl
theorem n52 : (funs[52]?).map (fun f => f.N.length) = some 4 := by kernel_rfl
theorem cb53 : ((funs[53]?).bind (cBody gs)) = some c53 := by kernel_rfl
theorem n53 : (funs[53]?).map (fun f => f.N.length) = some 1 := by kernel_rfl
theorem cb54 : ((funs[54]?).bind (cBody gs)) = some c54 := by kernel_rfl
theorem n54 : (funs[54]?).map (fun f => f.N.length) = some 2 := by kernel_rfl
theorem cb55 : ((funs[55]?).bind (cBody gs)) = some c55 := by kernel_rfl
theorem n55 : (funs[55]?).map (fun f => f.N.length) = some 2 := by kernel_rfl
theorem cb56 : ((funs[56]?).bind (cBody gs)) = some c56 := by kernel_rfl
theorem n56 : (funs[56]?).map (fun f => f.N.length) = some 21 := by kernel_rfl
end Pg
end

section
set_option linter.all false
set_option maxRecDepth 100000
set_option maxHeartbeats 1000000
namespace Pg
open PySem PySem.Spec L2 Mn
open TL (numL)
def T : Tb := ([(1, c0), (3, c1), (2, c2), (1, c3), (5, c4), (7, c5), (4, c6), (1, c7), (3, c8), (3, c9), (2, c10), (3, c11), (3, c12), (7, c13), (1, c14), (1, c15), (2, c16), (2, c17), (3, c18), (2, c19)] : Tb) ++ ([(2, c20), (2, c21), (2, c22), (4, c23), (2, c24), (1, c25), (3, c26), (2, c27), (3, c28), (1, c29), (2, c30), (1, c31), (1, c32), (3, c33), (6, c34), (1, c35), (2, c36), (4, c37), (2, c38), (2, c39)] : Tb) ++ ([(3, c40), (1, c41), (2, c42), (3, c43), (2, c44), (1, c45), (2, c46), (2, c47), (4, c48), (3, c49), (4, c50), (5, c51), (4, c52), (1, c53), (2, c54), (2, c55), (21, c56)] : Tb)
abbrev cc (n : Nat) : CallS := callC gs T n
theorem call_at {n i k : Nat} {b : List CS} (h : T[i]? = some (k, b)) (vs : List MV) (h0 : MH) : cc (n + 1) i vs h0 = runC gs (cc n) k b vs h0 := by
  show callC gs T (n + 1) i vs h0 = _
  simp only [callC, h]
theorem r8 (n : Nat) (v lo hi : Int) (h : MH) : cc (n + 1) 8 [.int v, .int lo, .int hi] h = .ok (.bl (decide (lo ≤ v) && decide (v ≤ hi))) h := by
  rw [call_at (k := 3) (b := c8) rfl]
  unfold runC c8
  by_cases h1 : lo ≤ v
  · have e1 : (decide (v < lo)) = false := by simp; omega
    have e2 : (!decide (hi < v)) = (decide (lo ≤ v) && decide (v ≤ hi)) := by
      by_cases h2 : v ≤ hi <;> simp [h1, h2] <;> omega
    simp only [evB, evS, evE, evT, evEs, evBo, evBoT, evIfC, evP, evI, bind_ok, bind_ex, bind_err, then_ok, then_ex, then_err, opt_some, opt_none, gd_f, gd_ok, t_non, t_bl, t_int, t_tup, b_ii, b_sub, c_eq_i, c_ne_i, c_eq_s, c_ne_s, c_eq_b, c_ne_b, c_lt_i, c_gt_i, c_le_i, c_ge_i, m_lt_i, m_le_i, m_le_s, c_is_n, c_isn_n, c_is_b, c_isn_b, is_n, is_i, is_s, is_b, is_t, is_r, c_in_c, c_nin_c, l_t, i_i, o_c, ix_t, ty_n, ty_b, ty_i, ty_s, ty_t, isinM, asgC, setAll, List.map_cons, List.map_nil, List.cons_append, List.nil_append, List.length_cons, List.length_nil, List.replicate_succ, List.replicate_zero, List.getElem?_cons_zero, List.getElem?_cons_succ, List.getElem?_nil, List.set_cons_zero, List.set_cons_succ, if_true, if_false, Bool.not_true, Bool.not_false, Bool.false_eq_true, Option.map_some, Option.map_none, List.any_cons, List.any_nil, Bool.or_false, Bool.false_or, Bool.or_true, Bool.true_or, Bool.and_true, Bool.true_and, Bool.false_and, Bool.and_false, beq_self_eq_true, String.reduceBEq, decide_true, decide_false, Nat.reduceAdd, Nat.reduceSub, Nat.zero_add, Int.natAbs_natCast, and_self, true_and, and_true, List.isEmpty_cons, List.isEmpty_nil, Option.isSome_some, Option.isSome_none, List.append_nil, e1, e2]
  · have e1 : (decide (v < lo)) = true := by simp; omega
    have e2 : false = (decide (lo ≤ v) && decide (v ≤ hi)) := by simp [h1]
    simp only [evB, evS, evE, evT, evEs, evBo, evBoT, evIfC, evP, evI, bind_ok, bind_ex, bind_err, then_ok, then_ex, then_err, opt_some, opt_none, gd_f, gd_ok, t_non, t_bl, t_int, t_tup, b_ii, b_sub, c_eq_i, c_ne_i, c_eq_s, c_ne_s, c_eq_b, c_ne_b, c_lt_i, c_gt_i, c_le_i, c_ge_i, m_lt_i, m_le_i, m_le_s, c_is_n, c_isn_n, c_is_b, c_isn_b, is_n, is_i, is_s, is_b, is_t, is_r, c_in_c, c_nin_c, l_t, i_i, o_c, ix_t, ty_n, ty_b, ty_i, ty_s, ty_t, isinM, asgC, setAll, List.map_cons, List.map_nil, List.cons_append, List.nil_append, List.length_cons, List.length_nil, List.replicate_succ, List.replicate_zero, List.getElem?_cons_zero, List.getElem?_cons_succ, List.getElem?_nil, List.set_cons_zero, List.set_cons_succ, if_true, if_false, Bool.not_true, Bool.not_false, Bool.false_eq_true, Option.map_some, Option.map_none, List.any_cons, List.any_nil, Bool.or_false, Bool.false_or, Bool.or_true, Bool.true_or, Bool.and_true, Bool.true_and, Bool.false_and, Bool.and_false, beq_self_eq_true, String.reduceBEq, decide_true, decide_false, Nat.reduceAdd, Nat.reduceSub, Nat.zero_add, Int.natAbs_natCast, and_self, true_and, and_true, List.isEmpty_cons, List.isEmpty_nil, Option.isSome_some, Option.isSome_none, List.append_nil, e1]
    rw [← e2]
theorem r9 (n : Nat) (v lo hi : Int) (h : MH) (h1 : lo ≤ v) (h2 : v ≤ hi) : cc (n + 2) 9 [.int v, .int lo, .int hi] h = .ok (.int v) h := by
  rw [call_at (k := 3) (b := c9) rfl]
  unfold runC c9
  have e : (decide (lo ≤ v) && decide (v ≤ hi)) = true := by simp [h1, h2]
  simp only [evB, evS, evE, evT, evEs, evBo, evBoT, evIfC, evP, evI, bind_ok, bind_ex, bind_err, then_ok, then_ex, then_err, opt_some, opt_none, gd_f, gd_ok, t_non, t_bl, t_int, t_tup, b_ii, b_sub, c_eq_i, c_ne_i, c_eq_s, c_ne_s, c_eq_b, c_ne_b, c_lt_i, c_gt_i, c_le_i, c_ge_i, m_lt_i, m_le_i, m_le_s, c_is_n, c_isn_n, c_is_b, c_isn_b, is_n, is_i, is_s, is_b, is_t, is_r, c_in_c, c_nin_c, l_t, i_i, o_c, ix_t, ty_n, ty_b, ty_i, ty_s, ty_t, isinM, asgC, setAll, List.map_cons, List.map_nil, List.cons_append, List.nil_append, List.length_cons, List.length_nil, List.replicate_succ, List.replicate_zero, List.getElem?_cons_zero, List.getElem?_cons_succ, List.getElem?_nil, List.set_cons_zero, List.set_cons_succ, if_true, if_false, Bool.not_true, Bool.not_false, Bool.false_eq_true, Option.map_some, Option.map_none, List.any_cons, List.any_nil, Bool.or_false, Bool.false_or, Bool.or_true, Bool.true_or, Bool.and_true, Bool.true_and, Bool.false_and, Bool.and_false, beq_self_eq_true, String.reduceBEq, decide_true, decide_false, Nat.reduceAdd, Nat.reduceSub, Nat.zero_add, Int.natAbs_natCast, and_self, true_and, and_true, List.isEmpty_cons, List.isEmpty_nil, Option.isSome_some, Option.isSome_none, List.append_nil, r8, e]
theorem r9x (n : Nat) (v lo hi : Int) (h : MH) (h1 : ¬ (lo ≤ v ∧ v ≤ hi)) (l1 : lo.natAbs.log2 < 1920) (l2 : hi.natAbs.log2 < 1920) (l3 : (tl (Str.ofString (toString lo))).length ≤ 100) (l4 : (tl (Str.ofString (toString hi))).length ≤ 100) : cc (n + 2) 9 [.int v, .int lo, .int hi] h = .ex ⟨1, []⟩ h := by
  rw [call_at (k := 3) (b := c9) rfl]
  unfold runC c9
  have e : (decide (lo ≤ v) && decide (v ≤ hi)) = false := by
    by_cases a : lo ≤ v
    · have : ¬ v ≤ hi := fun b => h1 ⟨a, b⟩
      simp [this]
    · simp [a]
  have b1 : ∀ a b : List Nat, a.length ≤ 200 → b.length ≤ 200 → a.length + b.length ≤ lim := fun a b x y => by unfold lim; omega
  simp only [evB, evS, evE, evT, evEs, evBo, evBoT, evIfC, evP, evI, bind_ok, bind_ex, bind_err, then_ok, then_ex, then_err, opt_some, opt_none, gd_f, gd_ok, t_non, t_bl, t_int, t_tup, b_ii, b_sub, c_eq_i, c_ne_i, c_eq_s, c_ne_s, c_eq_b, c_ne_b, c_lt_i, c_gt_i, c_le_i, c_ge_i, m_lt_i, m_le_i, m_le_s, c_is_n, c_isn_n, c_is_b, c_isn_b, is_n, is_i, is_s, is_b, is_t, is_r, c_in_c, c_nin_c, l_t, i_i, o_c, ix_t, ty_n, ty_b, ty_i, ty_s, ty_t, isinM, asgC, setAll, List.map_cons, List.map_nil, List.cons_append, List.nil_append, List.length_cons, List.length_nil, List.replicate_succ, List.replicate_zero, List.getElem?_cons_zero, List.getElem?_cons_succ, List.getElem?_nil, List.set_cons_zero, List.set_cons_succ, if_true, if_false, Bool.not_true, Bool.not_false, Bool.false_eq_true, Option.map_some, Option.map_none, List.any_cons, List.any_nil, Bool.or_false, Bool.false_or, Bool.or_true, Bool.true_or, Bool.and_true, Bool.true_and, Bool.false_and, Bool.and_false, beq_self_eq_true, String.reduceBEq, decide_true, decide_false, Nat.reduceAdd, Nat.reduceSub, Nat.zero_add, Int.natAbs_natCast, and_self, true_and, and_true, List.isEmpty_cons, List.isEmpty_nil, Option.isSome_some, Option.isSome_none, List.append_nil, r8, e, s_i l1, s_i l2]
  rw [b_ss (b1 _ _ (by simp) (by omega))]
  simp only [evB, evS, evE, evT, evEs, evBo, evBoT, evIfC, evP, evI, bind_ok, bind_ex, bind_err, then_ok, then_ex, then_err, opt_some, opt_none, gd_f, gd_ok, t_non, t_bl, t_int, t_tup, b_ii, b_sub, c_eq_i, c_ne_i, c_eq_s, c_ne_s, c_eq_b, c_ne_b, c_lt_i, c_gt_i, c_le_i, c_ge_i, m_lt_i, m_le_i, m_le_s, c_is_n, c_isn_n, c_is_b, c_isn_b, is_n, is_i, is_s, is_b, is_t, is_r, c_in_c, c_nin_c, l_t, i_i, o_c, ix_t, ty_n, ty_b, ty_i, ty_s, ty_t, isinM, asgC, setAll, List.map_cons, List.map_nil, List.cons_append, List.nil_append, List.length_cons, List.length_nil, List.replicate_succ, List.replicate_zero, List.getElem?_cons_zero, List.getElem?_cons_succ, List.getElem?_nil, List.set_cons_zero, List.set_cons_succ, if_true, if_false, Bool.not_true, Bool.not_false, Bool.false_eq_true, Option.map_some, Option.map_none, List.any_cons, List.any_nil, Bool.or_false, Bool.false_or, Bool.or_true, Bool.true_or, Bool.and_true, Bool.true_and, Bool.false_and, Bool.and_false, beq_self_eq_true, String.reduceBEq, decide_true, decide_false, Nat.reduceAdd, Nat.reduceSub, Nat.zero_add, Int.natAbs_natCast, and_self, true_and, and_true, List.isEmpty_cons, List.isEmpty_nil, Option.isSome_some, Option.isSome_none, List.append_nil]
  rw [b_ss (b1 _ _ (by simp only [List.length_append, List.length_cons, List.length_nil]; omega) (by simp))]
  simp only [evB, evS, evE, evT, evEs, evBo, evBoT, evIfC, evP, evI, bind_ok, bind_ex, bind_err, then_ok, then_ex, then_err, opt_some, opt_none, gd_f, gd_ok, t_non, t_bl, t_int, t_tup, b_ii, b_sub, c_eq_i, c_ne_i, c_eq_s, c_ne_s, c_eq_b, c_ne_b, c_lt_i, c_gt_i, c_le_i, c_ge_i, m_lt_i, m_le_i, m_le_s, c_is_n, c_isn_n, c_is_b, c_isn_b, is_n, is_i, is_s, is_b, is_t, is_r, c_in_c, c_nin_c, l_t, i_i, o_c, ix_t, ty_n, ty_b, ty_i, ty_s, ty_t, isinM, asgC, setAll, List.map_cons, List.map_nil, List.cons_append, List.nil_append, List.length_cons, List.length_nil, List.replicate_succ, List.replicate_zero, List.getElem?_cons_zero, List.getElem?_cons_succ, List.getElem?_nil, List.set_cons_zero, List.set_cons_succ, if_true, if_false, Bool.not_true, Bool.not_false, Bool.false_eq_true, Option.map_some, Option.map_none, List.any_cons, List.any_nil, Bool.or_false, Bool.false_or, Bool.or_true, Bool.true_or, Bool.and_true, Bool.true_and, Bool.false_and, Bool.and_false, beq_self_eq_true, String.reduceBEq, decide_true, decide_false, Nat.reduceAdd, Nat.reduceSub, Nat.zero_add, Int.natAbs_natCast, and_self, true_and, and_true, List.isEmpty_cons, List.isEmpty_nil, Option.isSome_some, Option.isSome_none, List.append_nil]
  rw [b_ss (b1 _ _ (by simp only [List.length_append, List.length_cons, List.length_nil]; omega) (by omega))]
  simp only [evB, evS, evE, evT, evEs, evBo, evBoT, evIfC, evP, evI, bind_ok, bind_ex, bind_err, then_ok, then_ex, then_err, opt_some, opt_none, gd_f, gd_ok, t_non, t_bl, t_int, t_tup, b_ii, b_sub, c_eq_i, c_ne_i, c_eq_s, c_ne_s, c_eq_b, c_ne_b, c_lt_i, c_gt_i, c_le_i, c_ge_i, m_lt_i, m_le_i, m_le_s, c_is_n, c_isn_n, c_is_b, c_isn_b, is_n, is_i, is_s, is_b, is_t, is_r, c_in_c, c_nin_c, l_t, i_i, o_c, ix_t, ty_n, ty_b, ty_i, ty_s, ty_t, isinM, asgC, setAll, List.map_cons, List.map_nil, List.cons_append, List.nil_append, List.length_cons, List.length_nil, List.replicate_succ, List.replicate_zero, List.getElem?_cons_zero, List.getElem?_cons_succ, List.getElem?_nil, List.set_cons_zero, List.set_cons_succ, if_true, if_false, Bool.not_true, Bool.not_false, Bool.false_eq_true, Option.map_some, Option.map_none, List.any_cons, List.any_nil, Bool.or_false, Bool.false_or, Bool.or_true, Bool.true_or, Bool.and_true, Bool.true_and, Bool.false_and, Bool.and_false, beq_self_eq_true, String.reduceBEq, decide_true, decide_false, Nat.reduceAdd, Nat.reduceSub, Nat.zero_add, Int.natAbs_natCast, and_self, true_and, and_true, List.isEmpty_cons, List.isEmpty_nil, Option.isSome_some, Option.isSome_none, List.append_nil]
theorem log_small {n : Nat} (h : n < 1000000) : n.log2 < 1920 := by
  by_cases h0 : n = 0
  · subst h0; decide
  · have := (Nat.log2_lt (n := n) (k := 20) h0).mpr (by omega)
    omega
theorem numL6 {n : Nat} (h : n < 1000000) : (numL n).length ≤ 6 := TL.numL_len (by decide) (by simpa using h)
theorem rep1 (k : Nat) (c : Nat) : (List.replicate k [c]).flatten = List.replicate k c := by
  induction k with
  | zero => rfl
  | succ k ih => rw [List.replicate_succ, List.flatten_cons, ih, List.replicate_succ]; rfl
theorem toN6 {k : Nat} : ((6 : Int) - (k : Int)).toNat = 6 - k := by omega
theorem r35 (n : Nat) (v : Nat) (h : MH) (hv : v < 1000000) : cc (n + 2) 35 [.int v] h = .ok (.str (six v)) h := by
  rw [call_at (k := 1) (b := c35) rfl]
  unfold runC c35
  have l := log_small hv
  have l6 := numL6 hv
  have e : (decide ((0 : Int) ≤ v) && decide ((v : Int) ≤ 999999)) = true := by simp; omega
  simp only [evB, evS, evE, evT, evEs, evBo, evBoT, evIfC, evP, evI, bind_ok, bind_ex, bind_err, then_ok, then_ex, then_err, opt_some, opt_none, gd_f, gd_ok, t_non, t_bl, t_int, t_tup, b_ii, b_sub, c_eq_i, c_ne_i, c_eq_s, c_ne_s, c_eq_b, c_ne_b, c_lt_i, c_gt_i, c_le_i, c_ge_i, m_lt_i, m_le_i, m_le_s, c_is_n, c_isn_n, c_is_b, c_isn_b, is_n, is_i, is_s, is_b, is_t, is_r, c_in_c, c_nin_c, l_t, i_i, o_c, ix_t, ty_n, ty_b, ty_i, ty_s, ty_t, isinM, asgC, setAll, List.map_cons, List.map_nil, List.cons_append, List.nil_append, List.length_cons, List.length_nil, List.replicate_succ, List.replicate_zero, List.getElem?_cons_zero, List.getElem?_cons_succ, List.getElem?_nil, List.set_cons_zero, List.set_cons_succ, if_true, if_false, Bool.not_true, Bool.not_false, Bool.false_eq_true, Option.map_some, Option.map_none, List.any_cons, List.any_nil, Bool.or_false, Bool.false_or, Bool.or_true, Bool.true_or, Bool.and_true, Bool.true_and, Bool.false_and, Bool.and_false, beq_self_eq_true, String.reduceBEq, decide_true, decide_false, Nat.reduceAdd, Nat.reduceSub, Nat.zero_add, Int.natAbs_natCast, and_self, true_and, and_true, List.isEmpty_cons, List.isEmpty_nil, Option.isSome_some, Option.isSome_none, List.append_nil, r8, e, s_i (show (v : Int).natAbs.log2 < 1920 from l), tl_int]
  rw [l_s (by unfold lim; omega)]
  simp only [evB, evS, evE, evT, evEs, evBo, evBoT, evIfC, evP, evI, bind_ok, bind_ex, bind_err, then_ok, then_ex, then_err, opt_some, opt_none, gd_f, gd_ok, t_non, t_bl, t_int, t_tup, b_ii, b_sub, c_eq_i, c_ne_i, c_eq_s, c_ne_s, c_eq_b, c_ne_b, c_lt_i, c_gt_i, c_le_i, c_ge_i, m_lt_i, m_le_i, m_le_s, c_is_n, c_isn_n, c_is_b, c_isn_b, is_n, is_i, is_s, is_b, is_t, is_r, c_in_c, c_nin_c, l_t, i_i, o_c, ix_t, ty_n, ty_b, ty_i, ty_s, ty_t, isinM, asgC, setAll, List.map_cons, List.map_nil, List.cons_append, List.nil_append, List.length_cons, List.length_nil, List.replicate_succ, List.replicate_zero, List.getElem?_cons_zero, List.getElem?_cons_succ, List.getElem?_nil, List.set_cons_zero, List.set_cons_succ, if_true, if_false, Bool.not_true, Bool.not_false, Bool.false_eq_true, Option.map_some, Option.map_none, List.any_cons, List.any_nil, Bool.or_false, Bool.false_or, Bool.or_true, Bool.true_or, Bool.and_true, Bool.true_and, Bool.false_and, Bool.and_false, beq_self_eq_true, String.reduceBEq, decide_true, decide_false, Nat.reduceAdd, Nat.reduceSub, Nat.zero_add, Int.natAbs_natCast, and_self, true_and, and_true, List.isEmpty_cons, List.isEmpty_nil, Option.isSome_some, Option.isSome_none, List.append_nil]
  rw [b_rep ⟨by simp, by omega, by omega⟩]
  simp only [evB, evS, evE, evT, evEs, evBo, evBoT, evIfC, evP, evI, bind_ok, bind_ex, bind_err, then_ok, then_ex, then_err, opt_some, opt_none, gd_f, gd_ok, t_non, t_bl, t_int, t_tup, b_ii, b_sub, c_eq_i, c_ne_i, c_eq_s, c_ne_s, c_eq_b, c_ne_b, c_lt_i, c_gt_i, c_le_i, c_ge_i, m_lt_i, m_le_i, m_le_s, c_is_n, c_isn_n, c_is_b, c_isn_b, is_n, is_i, is_s, is_b, is_t, is_r, c_in_c, c_nin_c, l_t, i_i, o_c, ix_t, ty_n, ty_b, ty_i, ty_s, ty_t, isinM, asgC, setAll, List.map_cons, List.map_nil, List.cons_append, List.nil_append, List.length_cons, List.length_nil, List.replicate_succ, List.replicate_zero, List.getElem?_cons_zero, List.getElem?_cons_succ, List.getElem?_nil, List.set_cons_zero, List.set_cons_succ, if_true, if_false, Bool.not_true, Bool.not_false, Bool.false_eq_true, Option.map_some, Option.map_none, List.any_cons, List.any_nil, Bool.or_false, Bool.false_or, Bool.or_true, Bool.true_or, Bool.and_true, Bool.true_and, Bool.false_and, Bool.and_false, beq_self_eq_true, String.reduceBEq, decide_true, decide_false, Nat.reduceAdd, Nat.reduceSub, Nat.zero_add, Int.natAbs_natCast, and_self, true_and, and_true, List.isEmpty_cons, List.isEmpty_nil, Option.isSome_some, Option.isSome_none, List.append_nil, rep1, toN6]
  rw [b_ss (by simp; unfold lim; omega)]
  rfl
theorem r10 (n : Nat) (v : Nat) (h : MH) (hv : v < 1000000) : cc (n + 3) 10 [.int v] h = .ok (.str ([112, 97, 103, 101, 115, 46] ++ six v)) h := by
  rw [call_at (k := 2) (b := c10) rfl]
  unfold runC c10
  have l := log_small hv
  have l6 := numL6 hv
  simp only [evB, evS, evE, evT, evEs, evBo, evBoT, evIfC, evP, evI, bind_ok, bind_ex, bind_err, then_ok, then_ex, then_err, opt_some, opt_none, gd_f, gd_ok, t_non, t_bl, t_int, t_tup, b_ii, b_sub, c_eq_i, c_ne_i, c_eq_s, c_ne_s, c_eq_b, c_ne_b, c_lt_i, c_gt_i, c_le_i, c_ge_i, m_lt_i, m_le_i, m_le_s, c_is_n, c_isn_n, c_is_b, c_isn_b, is_n, is_i, is_s, is_b, is_t, is_r, c_in_c, c_nin_c, l_t, i_i, o_c, ix_t, ty_n, ty_b, ty_i, ty_s, ty_t, isinM, asgC, setAll, List.map_cons, List.map_nil, List.cons_append, List.nil_append, List.length_cons, List.length_nil, List.replicate_succ, List.replicate_zero, List.getElem?_cons_zero, List.getElem?_cons_succ, List.getElem?_nil, List.set_cons_zero, List.set_cons_succ, if_true, if_false, Bool.not_true, Bool.not_false, Bool.false_eq_true, Option.map_some, Option.map_none, List.any_cons, List.any_nil, Bool.or_false, Bool.false_or, Bool.or_true, Bool.true_or, Bool.and_true, Bool.true_and, Bool.false_and, Bool.and_false, beq_self_eq_true, String.reduceBEq, decide_true, decide_false, Nat.reduceAdd, Nat.reduceSub, Nat.zero_add, Int.natAbs_natCast, and_self, true_and, and_true, List.isEmpty_cons, List.isEmpty_nil, Option.isSome_some, Option.isSome_none, List.append_nil, r9 n v 0 999999 h (by omega) (by omega), s_i (show (v : Int).natAbs.log2 < 1920 from l), tl_int]
  rw [l_s (by unfold lim; omega)]
  simp only [evB, evS, evE, evT, evEs, evBo, evBoT, evIfC, evP, evI, bind_ok, bind_ex, bind_err, then_ok, then_ex, then_err, opt_some, opt_none, gd_f, gd_ok, t_non, t_bl, t_int, t_tup, b_ii, b_sub, c_eq_i, c_ne_i, c_eq_s, c_ne_s, c_eq_b, c_ne_b, c_lt_i, c_gt_i, c_le_i, c_ge_i, m_lt_i, m_le_i, m_le_s, c_is_n, c_isn_n, c_is_b, c_isn_b, is_n, is_i, is_s, is_b, is_t, is_r, c_in_c, c_nin_c, l_t, i_i, o_c, ix_t, ty_n, ty_b, ty_i, ty_s, ty_t, isinM, asgC, setAll, List.map_cons, List.map_nil, List.cons_append, List.nil_append, List.length_cons, List.length_nil, List.replicate_succ, List.replicate_zero, List.getElem?_cons_zero, List.getElem?_cons_succ, List.getElem?_nil, List.set_cons_zero, List.set_cons_succ, if_true, if_false, Bool.not_true, Bool.not_false, Bool.false_eq_true, Option.map_some, Option.map_none, List.any_cons, List.any_nil, Bool.or_false, Bool.false_or, Bool.or_true, Bool.true_or, Bool.and_true, Bool.true_and, Bool.false_and, Bool.and_false, beq_self_eq_true, String.reduceBEq, decide_true, decide_false, Nat.reduceAdd, Nat.reduceSub, Nat.zero_add, Int.natAbs_natCast, and_self, true_and, and_true, List.isEmpty_cons, List.isEmpty_nil, Option.isSome_some, Option.isSome_none, List.append_nil]
  rw [b_rep ⟨by simp, by omega, by omega⟩]
  simp only [evB, evS, evE, evT, evEs, evBo, evBoT, evIfC, evP, evI, bind_ok, bind_ex, bind_err, then_ok, then_ex, then_err, opt_some, opt_none, gd_f, gd_ok, t_non, t_bl, t_int, t_tup, b_ii, b_sub, c_eq_i, c_ne_i, c_eq_s, c_ne_s, c_eq_b, c_ne_b, c_lt_i, c_gt_i, c_le_i, c_ge_i, m_lt_i, m_le_i, m_le_s, c_is_n, c_isn_n, c_is_b, c_isn_b, is_n, is_i, is_s, is_b, is_t, is_r, c_in_c, c_nin_c, l_t, i_i, o_c, ix_t, ty_n, ty_b, ty_i, ty_s, ty_t, isinM, asgC, setAll, List.map_cons, List.map_nil, List.cons_append, List.nil_append, List.length_cons, List.length_nil, List.replicate_succ, List.replicate_zero, List.getElem?_cons_zero, List.getElem?_cons_succ, List.getElem?_nil, List.set_cons_zero, List.set_cons_succ, if_true, if_false, Bool.not_true, Bool.not_false, Bool.false_eq_true, Option.map_some, Option.map_none, List.any_cons, List.any_nil, Bool.or_false, Bool.false_or, Bool.or_true, Bool.true_or, Bool.and_true, Bool.true_and, Bool.false_and, Bool.and_false, beq_self_eq_true, String.reduceBEq, decide_true, decide_false, Nat.reduceAdd, Nat.reduceSub, Nat.zero_add, Int.natAbs_natCast, and_self, true_and, and_true, List.isEmpty_cons, List.isEmpty_nil, Option.isSome_some, Option.isSome_none, List.append_nil, rep1, toN6]
  rw [b_ss (by simp only [List.length_cons, List.length_nil, List.length_replicate]; unfold lim; omega)]
  simp only [evB, evS, evE, evT, evEs, evBo, evBoT, evIfC, evP, evI, bind_ok, bind_ex, bind_err, then_ok, then_ex, then_err, opt_some, opt_none, gd_f, gd_ok, t_non, t_bl, t_int, t_tup, b_ii, b_sub, c_eq_i, c_ne_i, c_eq_s, c_ne_s, c_eq_b, c_ne_b, c_lt_i, c_gt_i, c_le_i, c_ge_i, m_lt_i, m_le_i, m_le_s, c_is_n, c_isn_n, c_is_b, c_isn_b, is_n, is_i, is_s, is_b, is_t, is_r, c_in_c, c_nin_c, l_t, i_i, o_c, ix_t, ty_n, ty_b, ty_i, ty_s, ty_t, isinM, asgC, setAll, List.map_cons, List.map_nil, List.cons_append, List.nil_append, List.length_cons, List.length_nil, List.replicate_succ, List.replicate_zero, List.getElem?_cons_zero, List.getElem?_cons_succ, List.getElem?_nil, List.set_cons_zero, List.set_cons_succ, if_true, if_false, Bool.not_true, Bool.not_false, Bool.false_eq_true, Option.map_some, Option.map_none, List.any_cons, List.any_nil, Bool.or_false, Bool.false_or, Bool.or_true, Bool.true_or, Bool.and_true, Bool.true_and, Bool.false_and, Bool.and_false, beq_self_eq_true, String.reduceBEq, decide_true, decide_false, Nat.reduceAdd, Nat.reduceSub, Nat.zero_add, Int.natAbs_natCast, and_self, true_and, and_true, List.isEmpty_cons, List.isEmpty_nil, Option.isSome_some, Option.isSome_none, List.append_nil]
  rw [b_ss (by simp only [List.length_append, List.length_cons, List.length_nil, List.length_replicate]; unfold lim; omega)]
  rfl
theorem r10x (n : Nat) (v : Int) (h : MH) (hv : ¬ (0 ≤ v ∧ v ≤ 999999)) : cc (n + 3) 10 [.int v] h = .ex ⟨1, []⟩ h := by
  rw [call_at (k := 2) (b := c10) rfl]
  unfold runC c10
  simp only [evB, evS, evE, evT, evEs, evBo, evBoT, evIfC, evP, evI, bind_ok, bind_ex, bind_err, then_ok, then_ex, then_err, opt_some, opt_none, gd_f, gd_ok, t_non, t_bl, t_int, t_tup, b_ii, b_sub, c_eq_i, c_ne_i, c_eq_s, c_ne_s, c_eq_b, c_ne_b, c_lt_i, c_gt_i, c_le_i, c_ge_i, m_lt_i, m_le_i, m_le_s, c_is_n, c_isn_n, c_is_b, c_isn_b, is_n, is_i, is_s, is_b, is_t, is_r, c_in_c, c_nin_c, l_t, i_i, o_c, ix_t, ty_n, ty_b, ty_i, ty_s, ty_t, isinM, asgC, setAll, List.map_cons, List.map_nil, List.cons_append, List.nil_append, List.length_cons, List.length_nil, List.replicate_succ, List.replicate_zero, List.getElem?_cons_zero, List.getElem?_cons_succ, List.getElem?_nil, List.set_cons_zero, List.set_cons_succ, if_true, if_false, Bool.not_true, Bool.not_false, Bool.false_eq_true, Option.map_some, Option.map_none, List.any_cons, List.any_nil, Bool.or_false, Bool.false_or, Bool.or_true, Bool.true_or, Bool.and_true, Bool.true_and, Bool.false_and, Bool.and_false, beq_self_eq_true, String.reduceBEq, decide_true, decide_false, Nat.reduceAdd, Nat.reduceSub, Nat.zero_add, Int.natAbs_natCast, and_self, true_and, and_true, List.isEmpty_cons, List.isEmpty_nil, Option.isSome_some, Option.isSome_none, List.append_nil, r9x n v 0 999999 h hv (by decide) (by decide) (by decide) (by decide)]
theorem r38 (n : Nat) (v : Nat) (h : MH) (hv : v < 1000000) : cc (n + 3) 38 [.int v] h = .ok (.str ([108, 111, 103, 46] ++ six v)) h := by
  rw [call_at (k := 2) (b := c38) rfl]
  unfold runC c38
  have l := log_small hv
  have l6 := numL6 hv
  simp only [evB, evS, evE, evT, evEs, evBo, evBoT, evIfC, evP, evI, bind_ok, bind_ex, bind_err, then_ok, then_ex, then_err, opt_some, opt_none, gd_f, gd_ok, t_non, t_bl, t_int, t_tup, b_ii, b_sub, c_eq_i, c_ne_i, c_eq_s, c_ne_s, c_eq_b, c_ne_b, c_lt_i, c_gt_i, c_le_i, c_ge_i, m_lt_i, m_le_i, m_le_s, c_is_n, c_isn_n, c_is_b, c_isn_b, is_n, is_i, is_s, is_b, is_t, is_r, c_in_c, c_nin_c, l_t, i_i, o_c, ix_t, ty_n, ty_b, ty_i, ty_s, ty_t, isinM, asgC, setAll, List.map_cons, List.map_nil, List.cons_append, List.nil_append, List.length_cons, List.length_nil, List.replicate_succ, List.replicate_zero, List.getElem?_cons_zero, List.getElem?_cons_succ, List.getElem?_nil, List.set_cons_zero, List.set_cons_succ, if_true, if_false, Bool.not_true, Bool.not_false, Bool.false_eq_true, Option.map_some, Option.map_none, List.any_cons, List.any_nil, Bool.or_false, Bool.false_or, Bool.or_true, Bool.true_or, Bool.and_true, Bool.true_and, Bool.false_and, Bool.and_false, beq_self_eq_true, String.reduceBEq, decide_true, decide_false, Nat.reduceAdd, Nat.reduceSub, Nat.zero_add, Int.natAbs_natCast, and_self, true_and, and_true, List.isEmpty_cons, List.isEmpty_nil, Option.isSome_some, Option.isSome_none, List.append_nil, r9 n v 0 999999 h (by omega) (by omega), s_i (show (v : Int).natAbs.log2 < 1920 from l), tl_int]
  rw [l_s (by unfold lim; omega)]
  simp only [evB, evS, evE, evT, evEs, evBo, evBoT, evIfC, evP, evI, bind_ok, bind_ex, bind_err, then_ok, then_ex, then_err, opt_some, opt_none, gd_f, gd_ok, t_non, t_bl, t_int, t_tup, b_ii, b_sub, c_eq_i, c_ne_i, c_eq_s, c_ne_s, c_eq_b, c_ne_b, c_lt_i, c_gt_i, c_le_i, c_ge_i, m_lt_i, m_le_i, m_le_s, c_is_n, c_isn_n, c_is_b, c_isn_b, is_n, is_i, is_s, is_b, is_t, is_r, c_in_c, c_nin_c, l_t, i_i, o_c, ix_t, ty_n, ty_b, ty_i, ty_s, ty_t, isinM, asgC, setAll, List.map_cons, List.map_nil, List.cons_append, List.nil_append, List.length_cons, List.length_nil, List.replicate_succ, List.replicate_zero, List.getElem?_cons_zero, List.getElem?_cons_succ, List.getElem?_nil, List.set_cons_zero, List.set_cons_succ, if_true, if_false, Bool.not_true, Bool.not_false, Bool.false_eq_true, Option.map_some, Option.map_none, List.any_cons, List.any_nil, Bool.or_false, Bool.false_or, Bool.or_true, Bool.true_or, Bool.and_true, Bool.true_and, Bool.false_and, Bool.and_false, beq_self_eq_true, String.reduceBEq, decide_true, decide_false, Nat.reduceAdd, Nat.reduceSub, Nat.zero_add, Int.natAbs_natCast, and_self, true_and, and_true, List.isEmpty_cons, List.isEmpty_nil, Option.isSome_some, Option.isSome_none, List.append_nil]
  rw [b_rep ⟨by simp, by omega, by omega⟩]
  simp only [evB, evS, evE, evT, evEs, evBo, evBoT, evIfC, evP, evI, bind_ok, bind_ex, bind_err, then_ok, then_ex, then_err, opt_some, opt_none, gd_f, gd_ok, t_non, t_bl, t_int, t_tup, b_ii, b_sub, c_eq_i, c_ne_i, c_eq_s, c_ne_s, c_eq_b, c_ne_b, c_lt_i, c_gt_i, c_le_i, c_ge_i, m_lt_i, m_le_i, m_le_s, c_is_n, c_isn_n, c_is_b, c_isn_b, is_n, is_i, is_s, is_b, is_t, is_r, c_in_c, c_nin_c, l_t, i_i, o_c, ix_t, ty_n, ty_b, ty_i, ty_s, ty_t, isinM, asgC, setAll, List.map_cons, List.map_nil, List.cons_append, List.nil_append, List.length_cons, List.length_nil, List.replicate_succ, List.replicate_zero, List.getElem?_cons_zero, List.getElem?_cons_succ, List.getElem?_nil, List.set_cons_zero, List.set_cons_succ, if_true, if_false, Bool.not_true, Bool.not_false, Bool.false_eq_true, Option.map_some, Option.map_none, List.any_cons, List.any_nil, Bool.or_false, Bool.false_or, Bool.or_true, Bool.true_or, Bool.and_true, Bool.true_and, Bool.false_and, Bool.and_false, beq_self_eq_true, String.reduceBEq, decide_true, decide_false, Nat.reduceAdd, Nat.reduceSub, Nat.zero_add, Int.natAbs_natCast, and_self, true_and, and_true, List.isEmpty_cons, List.isEmpty_nil, Option.isSome_some, Option.isSome_none, List.append_nil, rep1, toN6]
  rw [b_ss (by simp only [List.length_cons, List.length_nil, List.length_replicate]; unfold lim; omega)]
  simp only [evB, evS, evE, evT, evEs, evBo, evBoT, evIfC, evP, evI, bind_ok, bind_ex, bind_err, then_ok, then_ex, then_err, opt_some, opt_none, gd_f, gd_ok, t_non, t_bl, t_int, t_tup, b_ii, b_sub, c_eq_i, c_ne_i, c_eq_s, c_ne_s, c_eq_b, c_ne_b, c_lt_i, c_gt_i, c_le_i, c_ge_i, m_lt_i, m_le_i, m_le_s, c_is_n, c_isn_n, c_is_b, c_isn_b, is_n, is_i, is_s, is_b, is_t, is_r, c_in_c, c_nin_c, l_t, i_i, o_c, ix_t, ty_n, ty_b, ty_i, ty_s, ty_t, isinM, asgC, setAll, List.map_cons, List.map_nil, List.cons_append, List.nil_append, List.length_cons, List.length_nil, List.replicate_succ, List.replicate_zero, List.getElem?_cons_zero, List.getElem?_cons_succ, List.getElem?_nil, List.set_cons_zero, List.set_cons_succ, if_true, if_false, Bool.not_true, Bool.not_false, Bool.false_eq_true, Option.map_some, Option.map_none, List.any_cons, List.any_nil, Bool.or_false, Bool.false_or, Bool.or_true, Bool.true_or, Bool.and_true, Bool.true_and, Bool.false_and, Bool.and_false, beq_self_eq_true, String.reduceBEq, decide_true, decide_false, Nat.reduceAdd, Nat.reduceSub, Nat.zero_add, Int.natAbs_natCast, and_self, true_and, and_true, List.isEmpty_cons, List.isEmpty_nil, Option.isSome_some, Option.isSome_none, List.append_nil]
  rw [b_ss (by simp only [List.length_append, List.length_cons, List.length_nil, List.length_replicate]; unfold lim; omega)]
  rfl
theorem r38x (n : Nat) (v : Int) (h : MH) (hv : ¬ (0 ≤ v ∧ v ≤ 999999)) : cc (n + 3) 38 [.int v] h = .ex ⟨1, []⟩ h := by
  rw [call_at (k := 2) (b := c38) rfl]
  unfold runC c38
  simp only [evB, evS, evE, evT, evEs, evBo, evBoT, evIfC, evP, evI, bind_ok, bind_ex, bind_err, then_ok, then_ex, then_err, opt_some, opt_none, gd_f, gd_ok, t_non, t_bl, t_int, t_tup, b_ii, b_sub, c_eq_i, c_ne_i, c_eq_s, c_ne_s, c_eq_b, c_ne_b, c_lt_i, c_gt_i, c_le_i, c_ge_i, m_lt_i, m_le_i, m_le_s, c_is_n, c_isn_n, c_is_b, c_isn_b, is_n, is_i, is_s, is_b, is_t, is_r, c_in_c, c_nin_c, l_t, i_i, o_c, ix_t, ty_n, ty_b, ty_i, ty_s, ty_t, isinM, asgC, setAll, List.map_cons, List.map_nil, List.cons_append, List.nil_append, List.length_cons, List.length_nil, List.replicate_succ, List.replicate_zero, List.getElem?_cons_zero, List.getElem?_cons_succ, List.getElem?_nil, List.set_cons_zero, List.set_cons_succ, if_true, if_false, Bool.not_true, Bool.not_false, Bool.false_eq_true, Option.map_some, Option.map_none, List.any_cons, List.any_nil, Bool.or_false, Bool.false_or, Bool.or_true, Bool.true_or, Bool.and_true, Bool.true_and, Bool.false_and, Bool.and_false, beq_self_eq_true, String.reduceBEq, decide_true, decide_false, Nat.reduceAdd, Nat.reduceSub, Nat.zero_add, Int.natAbs_natCast, and_self, true_and, and_true, List.isEmpty_cons, List.isEmpty_nil, Option.isSome_some, Option.isSome_none, List.append_nil, r9x n v 0 999999 h hv (by decide) (by decide) (by decide) (by decide)]
theorem r42 (n : Nat) (v : Nat) (h : MH) (hv : v < 1000000) : cc (n + 3) 42 [.int v] h = .ok (.str ([115, 110, 97, 112, 46] ++ six v)) h := by
  rw [call_at (k := 2) (b := c42) rfl]
  unfold runC c42
  have l := log_small hv
  have l6 := numL6 hv
  simp only [evB, evS, evE, evT, evEs, evBo, evBoT, evIfC, evP, evI, bind_ok, bind_ex, bind_err, then_ok, then_ex, then_err, opt_some, opt_none, gd_f, gd_ok, t_non, t_bl, t_int, t_tup, b_ii, b_sub, c_eq_i, c_ne_i, c_eq_s, c_ne_s, c_eq_b, c_ne_b, c_lt_i, c_gt_i, c_le_i, c_ge_i, m_lt_i, m_le_i, m_le_s, c_is_n, c_isn_n, c_is_b, c_isn_b, is_n, is_i, is_s, is_b, is_t, is_r, c_in_c, c_nin_c, l_t, i_i, o_c, ix_t, ty_n, ty_b, ty_i, ty_s, ty_t, isinM, asgC, setAll, List.map_cons, List.map_nil, List.cons_append, List.nil_append, List.length_cons, List.length_nil, List.replicate_succ, List.replicate_zero, List.getElem?_cons_zero, List.getElem?_cons_succ, List.getElem?_nil, List.set_cons_zero, List.set_cons_succ, if_true, if_false, Bool.not_true, Bool.not_false, Bool.false_eq_true, Option.map_some, Option.map_none, List.any_cons, List.any_nil, Bool.or_false, Bool.false_or, Bool.or_true, Bool.true_or, Bool.and_true, Bool.true_and, Bool.false_and, Bool.and_false, beq_self_eq_true, String.reduceBEq, decide_true, decide_false, Nat.reduceAdd, Nat.reduceSub, Nat.zero_add, Int.natAbs_natCast, and_self, true_and, and_true, List.isEmpty_cons, List.isEmpty_nil, Option.isSome_some, Option.isSome_none, List.append_nil, r9 n v 0 999999 h (by omega) (by omega), s_i (show (v : Int).natAbs.log2 < 1920 from l), tl_int]
  rw [l_s (by unfold lim; omega)]
  simp only [evB, evS, evE, evT, evEs, evBo, evBoT, evIfC, evP, evI, bind_ok, bind_ex, bind_err, then_ok, then_ex, then_err, opt_some, opt_none, gd_f, gd_ok, t_non, t_bl, t_int, t_tup, b_ii, b_sub, c_eq_i, c_ne_i, c_eq_s, c_ne_s, c_eq_b, c_ne_b, c_lt_i, c_gt_i, c_le_i, c_ge_i, m_lt_i, m_le_i, m_le_s, c_is_n, c_isn_n, c_is_b, c_isn_b, is_n, is_i, is_s, is_b, is_t, is_r, c_in_c, c_nin_c, l_t, i_i, o_c, ix_t, ty_n, ty_b, ty_i, ty_s, ty_t, isinM, asgC, setAll, List.map_cons, List.map_nil, List.cons_append, List.nil_append, List.length_cons, List.length_nil, List.replicate_succ, List.replicate_zero, List.getElem?_cons_zero, List.getElem?_cons_succ, List.getElem?_nil, List.set_cons_zero, List.set_cons_succ, if_true, if_false, Bool.not_true, Bool.not_false, Bool.false_eq_true, Option.map_some, Option.map_none, List.any_cons, List.any_nil, Bool.or_false, Bool.false_or, Bool.or_true, Bool.true_or, Bool.and_true, Bool.true_and, Bool.false_and, Bool.and_false, beq_self_eq_true, String.reduceBEq, decide_true, decide_false, Nat.reduceAdd, Nat.reduceSub, Nat.zero_add, Int.natAbs_natCast, and_self, true_and, and_true, List.isEmpty_cons, List.isEmpty_nil, Option.isSome_some, Option.isSome_none, List.append_nil]
  rw [b_rep ⟨by simp, by omega, by omega⟩]
  simp only [evB, evS, evE, evT, evEs, evBo, evBoT, evIfC, evP, evI, bind_ok, bind_ex, bind_err, then_ok, then_ex, then_err, opt_some, opt_none, gd_f, gd_ok, t_non, t_bl, t_int, t_tup, b_ii, b_sub, c_eq_i, c_ne_i, c_eq_s, c_ne_s, c_eq_b, c_ne_b, c_lt_i, c_gt_i, c_le_i, c_ge_i, m_lt_i, m_le_i, m_le_s, c_is_n, c_isn_n, c_is_b, c_isn_b, is_n, is_i, is_s, is_b, is_t, is_r, c_in_c, c_nin_c, l_t, i_i, o_c, ix_t, ty_n, ty_b, ty_i, ty_s, ty_t, isinM, asgC, setAll, List.map_cons, List.map_nil, List.cons_append, List.nil_append, List.length_cons, List.length_nil, List.replicate_succ, List.replicate_zero, List.getElem?_cons_zero, List.getElem?_cons_succ, List.getElem?_nil, List.set_cons_zero, List.set_cons_succ, if_true, if_false, Bool.not_true, Bool.not_false, Bool.false_eq_true, Option.map_some, Option.map_none, List.any_cons, List.any_nil, Bool.or_false, Bool.false_or, Bool.or_true, Bool.true_or, Bool.and_true, Bool.true_and, Bool.false_and, Bool.and_false, beq_self_eq_true, String.reduceBEq, decide_true, decide_false, Nat.reduceAdd, Nat.reduceSub, Nat.zero_add, Int.natAbs_natCast, and_self, true_and, and_true, List.isEmpty_cons, List.isEmpty_nil, Option.isSome_some, Option.isSome_none, List.append_nil, rep1, toN6]
  rw [b_ss (by simp only [List.length_cons, List.length_nil, List.length_replicate]; unfold lim; omega)]
  simp only [evB, evS, evE, evT, evEs, evBo, evBoT, evIfC, evP, evI, bind_ok, bind_ex, bind_err, then_ok, then_ex, then_err, opt_some, opt_none, gd_f, gd_ok, t_non, t_bl, t_int, t_tup, b_ii, b_sub, c_eq_i, c_ne_i, c_eq_s, c_ne_s, c_eq_b, c_ne_b, c_lt_i, c_gt_i, c_le_i, c_ge_i, m_lt_i, m_le_i, m_le_s, c_is_n, c_isn_n, c_is_b, c_isn_b, is_n, is_i, is_s, is_b, is_t, is_r, c_in_c, c_nin_c, l_t, i_i, o_c, ix_t, ty_n, ty_b, ty_i, ty_s, ty_t, isinM, asgC, setAll, List.map_cons, List.map_nil, List.cons_append, List.nil_append, List.length_cons, List.length_nil, List.replicate_succ, List.replicate_zero, List.getElem?_cons_zero, List.getElem?_cons_succ, List.getElem?_nil, List.set_cons_zero, List.set_cons_succ, if_true, if_false, Bool.not_true, Bool.not_false, Bool.false_eq_true, Option.map_some, Option.map_none, List.any_cons, List.any_nil, Bool.or_false, Bool.false_or, Bool.or_true, Bool.true_or, Bool.and_true, Bool.true_and, Bool.false_and, Bool.and_false, beq_self_eq_true, String.reduceBEq, decide_true, decide_false, Nat.reduceAdd, Nat.reduceSub, Nat.zero_add, Int.natAbs_natCast, and_self, true_and, and_true, List.isEmpty_cons, List.isEmpty_nil, Option.isSome_some, Option.isSome_none, List.append_nil]
  rw [b_ss (by simp only [List.length_append, List.length_cons, List.length_nil, List.length_replicate]; unfold lim; omega)]
  rfl
theorem r42x (n : Nat) (v : Int) (h : MH) (hv : ¬ (0 ≤ v ∧ v ≤ 999999)) : cc (n + 3) 42 [.int v] h = .ex ⟨1, []⟩ h := by
  rw [call_at (k := 2) (b := c42) rfl]
  unfold runC c42
  simp only [evB, evS, evE, evT, evEs, evBo, evBoT, evIfC, evP, evI, bind_ok, bind_ex, bind_err, then_ok, then_ex, then_err, opt_some, opt_none, gd_f, gd_ok, t_non, t_bl, t_int, t_tup, b_ii, b_sub, c_eq_i, c_ne_i, c_eq_s, c_ne_s, c_eq_b, c_ne_b, c_lt_i, c_gt_i, c_le_i, c_ge_i, m_lt_i, m_le_i, m_le_s, c_is_n, c_isn_n, c_is_b, c_isn_b, is_n, is_i, is_s, is_b, is_t, is_r, c_in_c, c_nin_c, l_t, i_i, o_c, ix_t, ty_n, ty_b, ty_i, ty_s, ty_t, isinM, asgC, setAll, List.map_cons, List.map_nil, List.cons_append, List.nil_append, List.length_cons, List.length_nil, List.replicate_succ, List.replicate_zero, List.getElem?_cons_zero, List.getElem?_cons_succ, List.getElem?_nil, List.set_cons_zero, List.set_cons_succ, if_true, if_false, Bool.not_true, Bool.not_false, Bool.false_eq_true, Option.map_some, Option.map_none, List.any_cons, List.any_nil, Bool.or_false, Bool.false_or, Bool.or_true, Bool.true_or, Bool.and_true, Bool.true_and, Bool.false_and, Bool.and_false, beq_self_eq_true, String.reduceBEq, decide_true, decide_false, Nat.reduceAdd, Nat.reduceSub, Nat.zero_add, Int.natAbs_natCast, and_self, true_and, and_true, List.isEmpty_cons, List.isEmpty_nil, Option.isSome_some, Option.isSome_none, List.append_nil, r9x n v 0 999999 h hv (by decide) (by decide) (by decide) (by decide)]
/-! ### which names are which -/
def DIG : List Nat := [48, 49, 50, 51, 52, 53, 54, 55, 56, 57]
theorem sw_eq (s P : List Nat) : Txt.startswith ⟨s.toArray⟩ ⟨P.toArray⟩ = (s.take P.length == P) := by
  unfold Txt.startswith
  rw [StrLaws.subAt_eq]
  simp only [Str.length, List.size_toArray, List.drop_zero, Nat.zero_add]
  by_cases h : P.length ≤ s.length
  · simp [h]
  · have h1 : ¬ P.length ≤ s.length := h
    have h2 : (s.take P.length == P) = false := by
      rw [beq_eq_false_iff_ne]
      intro e
      have := congrArg List.length e
      rw [List.length_take] at this
      omega
    rw [h2]
    simp [h1]
theorem cut_from {α : Type} (s : List α) (k : Nat) : cutL s (some (k : Int)) none = s.drop k := by
  unfold cutL
  rw [HT.sIx_nat]
  show (s.drop (min k s.length)).take (s.length - min k s.length) = s.drop k
  by_cases h : k ≤ s.length
  · rw [Nat.min_eq_left h, ← List.length_drop, List.take_length]
  · rw [Nat.min_eq_right (by omega), List.drop_length, List.drop_eq_nil_of_le (by omega)]
    simp
theorem bad_empty (s : List Nat) : ((s.map fun c => MV.str [c]).filterMap fun x => match x with
    | .str [c] => if c ∈ DIG then none else some (MV.str [c])
    | _ => none).isEmpty = s.all fun c => decide (c ∈ DIG) := by
  induction s with
  | nil => rfl
  | cons c s ih =>
    rw [List.map_cons, List.filterMap_cons, List.all_cons]
    by_cases h : c ∈ DIG
    · simp only [h, if_true, decide_true, Bool.true_and]
      exact ih
    · simp only [h, if_false, decide_false, Bool.false_and]
      rfl
theorem dig_lc (C : CallS) (s : List Nat) (sm : MSt) (j : Nat) (h : MH) (hj : j < sm.length) (hl : s.length < lim) :
    ∃ g L, lcC (fun sm h => evIfC gs C [.tcmp .NotIn (.v j) (.k (.str [48, 49, 50, 51, 52, 53, 54, 55, 56, 57]))] sm h) (fun sm h => evE gs C (.v j) sm h) (.one j) sm (.seq (s.map fun c => .str [c])) h.length (s.length + 1) 0 (h ++ [.lst []]) = .ok (.ref h.length) (h ++ .lst L :: g) ∧ L.isEmpty = s.all fun c => decide (c ∈ DIG) := by
  obtain ⟨g, e⟩ := lcC_fm (tg := .one j) (et := fun sm h => evIfC gs C [.tcmp .NotIn (.v j) (.k (.str [48, 49, 50, 51, 52, 53, 54, 55, 56, 57]))] sm h) (ee := fun sm h => evE gs C (.v j) sm h) (sm := sm) (h0 := h) (it := .seq (s.map fun c => .str [c])) (s.map fun c => .str [c])
    (fun x => match x with
      | .str [c] => if c ∈ DIG then none else some (MV.str [c])
      | _ => none) (m := s.length + 1) (by simp) (by simpa using hl) at_seq (by
    intro x hx
    obtain ⟨c, hc, rfl⟩ := List.mem_map.mp hx
    refine ⟨_, rfl, fun H _ => ⟨!decide (c ∈ DIG), [], ?_, fun hb => ⟨.str [c], [], ?_, ?_⟩, fun hb => ?_⟩⟩
    · simp only [evIfC, evT, evE, List.getElem?_set_self hj, bind_ok, c_nin_c, opt_some, List.append_nil]
      show (if (!decide (c ∈ DIG)) = true then _ else _) = _
      cases hd : decide (c ∈ DIG) <;> rfl
    · simp only [evE, List.getElem?_set_self hj, List.append_nil]
    · have : c ∉ DIG := by simpa using hb
      simp only [this, if_false]
    · have : c ∈ DIG := by simpa using hb
      simp only [this, if_true])
  exact ⟨g, _, e, bad_empty s⟩
def isP (P s : List Nat) : Bool := (s.take P.length == P) && (decide ((s.drop P.length).length = 6) && (s.drop P.length).all fun c => decide (c ∈ DIG))
theorem cut4 {α : Type} (s : List α) : cutL s (some 4) none = s.drop 4 := cut_from s 4
theorem cut5 {α : Type} (s : List α) : cutL s (some 5) none = s.drop 5 := cut_from s 5
theorem cut6 {α : Type} (s : List α) : cutL s (some 6) none = s.drop 6 := cut_from s 6
theorem it_s {h : MH} {s : List Nat} (hl : s.length ≤ lim) : itOf h (.str s) = some (.seq (s.map fun c => .str [c])) := if_pos hl
theorem sw_m {h : MH} {s P : List Nat} : mtS .startswith h s [.str P] = .ok (.bl (s.take P.length == P)) h := by
  show Res.ok (MV.bl (Txt.startswith _ _)) h = _
  rw [sw_eq]
theorem dec6 {k : Nat} : decide ((k : Int) = 6) = decide (k = 6) := by
  by_cases h : k = 6
  · subst h; rfl
  · have : ¬ (k : Int) = 6 := by omega
    simp [h, this]
theorem not_lst {g : GS} {C : CallS} {e : CE} {sm : MSt} {h h1 : MH} {a : Nat} {L : List MV} (he : evE g C e sm h = .ok (.ref a) h1) (ha : h1[a]? = some (.lst L)) : evE g C (.not e) sm h = .ok (.bl L.isEmpty) h1 := by
  simp only [evE, he, bind_ok, t_lst ha, Bool.not_not]
theorem r40 (n : Nat) (s : List Nat) (h : MH) (hl : s.length < lim) : ∃ g, cc (n + 1) 40 [.str s] h = .ok (.bl (isP [108, 111, 103, 46] s)) (h ++ g) := by
  have hl2 : (s.drop 4).length < lim := by rw [List.length_drop]; omega
  obtain ⟨g, L, e, eL⟩ := dig_lc (cc n) (s.drop 4) (wipeM [some (.str s), some (.str (s.drop 4)), none] [2]) 2 h (by simp [wipeM]) hl2
  have hn : evE gs (cc n) (.not (.lc (.v 2) (.one 2) 0 [.v 1] [.tcmp .NotIn (.v 2) (.k (.str [48, 49, 50, 51, 52, 53, 54, 55, 56, 57]))] [2])) [some (.str s), some (.str (s.drop 4)), none] h = .ok (.bl ((s.drop 4).all fun c => decide (c ∈ DIG))) (h ++ .lst L :: g) := by
    rw [← eL]
    refine not_lst ?_ get_mid
    rw [← e]
    simp only [evE, evI, bind_ok, List.getElem?_cons_zero, List.getElem?_cons_succ, it_s (Nat.le_of_lt hl2), opt_some, It.fuel, List.length_map]
  by_cases h1 : (s.take 4 == [108, 111, 103, 46]) = true
  · by_cases h2 : (s.drop 4).length = 6
    · refine ⟨.lst L :: g, ?_⟩
      rw [call_at (k := 3) (b := c40) rfl]
      unfold runC c40
      generalize (CE.not (.lc (.v 2) (.one 2) 0 [.v 1] [.tcmp .NotIn (.v 2) (.k (.str [48, 49, 50, 51, 52, 53, 54, 55, 56, 57]))] [2])) = N at hn ⊢
      simp only [evB, evS, evE, evT, evEs, evBo, evBoT, evIfC, evP, evI, bind_ok, bind_ex, bind_err, then_ok, then_ex, then_err, opt_some, opt_none, gd_f, gd_ok, t_non, t_bl, t_int, t_tup, b_ii, b_sub, c_eq_i, c_ne_i, c_eq_s, c_ne_s, c_eq_b, c_ne_b, c_lt_i, c_gt_i, c_le_i, c_ge_i, m_lt_i, m_le_i, m_le_s, c_is_n, c_isn_n, c_is_b, c_isn_b, is_n, is_i, is_s, is_b, is_t, is_r, c_in_c, c_nin_c, l_t, i_i, o_c, ix_t, ty_n, ty_b, ty_i, ty_s, ty_t, isinM, asgC, setAll, List.map_cons, List.map_nil, List.cons_append, List.nil_append, List.length_cons, List.length_nil, List.replicate_succ, List.replicate_zero, List.getElem?_cons_zero, List.getElem?_cons_succ, List.getElem?_nil, List.set_cons_zero, List.set_cons_succ, if_true, if_false, Bool.not_true, Bool.not_false, Bool.false_eq_true, Option.map_some, Option.map_none, List.any_cons, List.any_nil, Bool.or_false, Bool.false_or, Bool.or_true, Bool.true_or, Bool.and_true, Bool.true_and, Bool.false_and, Bool.and_false, beq_self_eq_true, String.reduceBEq, decide_true, decide_false, Nat.reduceAdd, Nat.reduceSub, Nat.zero_add, Int.natAbs_natCast, and_self, true_and, and_true, List.isEmpty_cons, List.isEmpty_nil, Option.isSome_some, Option.isSome_none, List.append_nil, sl_s (Nat.le_of_lt hl), cut4, sw_m, h1, l_s (Nat.le_of_lt hl2), dec6, h2, hn]
      unfold isP
      simp only [List.length_cons, List.length_nil, Nat.reduceAdd, h1, h2, decide_true, Bool.true_and]
    · refine ⟨[], ?_⟩
      rw [call_at (k := 3) (b := c40) rfl]
      unfold runC c40
      generalize (CE.not (.lc (.v 2) (.one 2) 0 [.v 1] [.tcmp .NotIn (.v 2) (.k (.str [48, 49, 50, 51, 52, 53, 54, 55, 56, 57]))] [2])) = N at hn ⊢
      simp only [evB, evS, evE, evT, evEs, evBo, evBoT, evIfC, evP, evI, bind_ok, bind_ex, bind_err, then_ok, then_ex, then_err, opt_some, opt_none, gd_f, gd_ok, t_non, t_bl, t_int, t_tup, b_ii, b_sub, c_eq_i, c_ne_i, c_eq_s, c_ne_s, c_eq_b, c_ne_b, c_lt_i, c_gt_i, c_le_i, c_ge_i, m_lt_i, m_le_i, m_le_s, c_is_n, c_isn_n, c_is_b, c_isn_b, is_n, is_i, is_s, is_b, is_t, is_r, c_in_c, c_nin_c, l_t, i_i, o_c, ix_t, ty_n, ty_b, ty_i, ty_s, ty_t, isinM, asgC, setAll, List.map_cons, List.map_nil, List.cons_append, List.nil_append, List.length_cons, List.length_nil, List.replicate_succ, List.replicate_zero, List.getElem?_cons_zero, List.getElem?_cons_succ, List.getElem?_nil, List.set_cons_zero, List.set_cons_succ, if_true, if_false, Bool.not_true, Bool.not_false, Bool.false_eq_true, Option.map_some, Option.map_none, List.any_cons, List.any_nil, Bool.or_false, Bool.false_or, Bool.or_true, Bool.true_or, Bool.and_true, Bool.true_and, Bool.false_and, Bool.and_false, beq_self_eq_true, String.reduceBEq, decide_true, decide_false, Nat.reduceAdd, Nat.reduceSub, Nat.zero_add, Int.natAbs_natCast, and_self, true_and, and_true, List.isEmpty_cons, List.isEmpty_nil, Option.isSome_some, Option.isSome_none, List.append_nil, sl_s (Nat.le_of_lt hl), cut4, sw_m, h1, l_s (Nat.le_of_lt hl2), dec6, h2]
      unfold isP
      simp only [List.length_cons, List.length_nil, Nat.reduceAdd, h1, h2, decide_false, Bool.false_and, Bool.and_false]
  · refine ⟨[], ?_⟩
    have h1' : (s.take 4 == [108, 111, 103, 46]) = false := by simpa using h1
    rw [call_at (k := 3) (b := c40) rfl]
    unfold runC c40
    simp only [evB, evS, evE, evT, evEs, evBo, evBoT, evIfC, evP, evI, bind_ok, bind_ex, bind_err, then_ok, then_ex, then_err, opt_some, opt_none, gd_f, gd_ok, t_non, t_bl, t_int, t_tup, b_ii, b_sub, c_eq_i, c_ne_i, c_eq_s, c_ne_s, c_eq_b, c_ne_b, c_lt_i, c_gt_i, c_le_i, c_ge_i, m_lt_i, m_le_i, m_le_s, c_is_n, c_isn_n, c_is_b, c_isn_b, is_n, is_i, is_s, is_b, is_t, is_r, c_in_c, c_nin_c, l_t, i_i, o_c, ix_t, ty_n, ty_b, ty_i, ty_s, ty_t, isinM, asgC, setAll, List.map_cons, List.map_nil, List.cons_append, List.nil_append, List.length_cons, List.length_nil, List.replicate_succ, List.replicate_zero, List.getElem?_cons_zero, List.getElem?_cons_succ, List.getElem?_nil, List.set_cons_zero, List.set_cons_succ, if_true, if_false, Bool.not_true, Bool.not_false, Bool.false_eq_true, Option.map_some, Option.map_none, List.any_cons, List.any_nil, Bool.or_false, Bool.false_or, Bool.or_true, Bool.true_or, Bool.and_true, Bool.true_and, Bool.false_and, Bool.and_false, beq_self_eq_true, String.reduceBEq, decide_true, decide_false, Nat.reduceAdd, Nat.reduceSub, Nat.zero_add, Int.natAbs_natCast, and_self, true_and, and_true, List.isEmpty_cons, List.isEmpty_nil, Option.isSome_some, Option.isSome_none, List.append_nil, sl_s (Nat.le_of_lt hl), cut4, sw_m, h1']
    unfold isP
    simp only [List.length_cons, List.length_nil, Nat.reduceAdd, h1', Bool.false_and]
theorem r43 (n : Nat) (s : List Nat) (h : MH) (hl : s.length < lim) : ∃ g, cc (n + 1) 43 [.str s] h = .ok (.bl (isP [115, 110, 97, 112, 46] s)) (h ++ g) := by
  have hl2 : (s.drop 5).length < lim := by rw [List.length_drop]; omega
  obtain ⟨g, L, e, eL⟩ := dig_lc (cc n) (s.drop 5) (wipeM [some (.str s), some (.str (s.drop 5)), none] [2]) 2 h (by simp [wipeM]) hl2
  have hn : evE gs (cc n) (.not (.lc (.v 2) (.one 2) 0 [.v 1] [.tcmp .NotIn (.v 2) (.k (.str [48, 49, 50, 51, 52, 53, 54, 55, 56, 57]))] [2])) [some (.str s), some (.str (s.drop 5)), none] h = .ok (.bl ((s.drop 5).all fun c => decide (c ∈ DIG))) (h ++ .lst L :: g) := by
    rw [← eL]
    refine not_lst ?_ get_mid
    rw [← e]
    simp only [evE, evI, bind_ok, List.getElem?_cons_zero, List.getElem?_cons_succ, it_s (Nat.le_of_lt hl2), opt_some, It.fuel, List.length_map]
  by_cases h1 : (s.take 5 == [115, 110, 97, 112, 46]) = true
  · by_cases h2 : (s.drop 5).length = 6
    · refine ⟨.lst L :: g, ?_⟩
      rw [call_at (k := 3) (b := c43) rfl]
      unfold runC c43
      generalize (CE.not (.lc (.v 2) (.one 2) 0 [.v 1] [.tcmp .NotIn (.v 2) (.k (.str [48, 49, 50, 51, 52, 53, 54, 55, 56, 57]))] [2])) = N at hn ⊢
      simp only [evB, evS, evE, evT, evEs, evBo, evBoT, evIfC, evP, evI, bind_ok, bind_ex, bind_err, then_ok, then_ex, then_err, opt_some, opt_none, gd_f, gd_ok, t_non, t_bl, t_int, t_tup, b_ii, b_sub, c_eq_i, c_ne_i, c_eq_s, c_ne_s, c_eq_b, c_ne_b, c_lt_i, c_gt_i, c_le_i, c_ge_i, m_lt_i, m_le_i, m_le_s, c_is_n, c_isn_n, c_is_b, c_isn_b, is_n, is_i, is_s, is_b, is_t, is_r, c_in_c, c_nin_c, l_t, i_i, o_c, ix_t, ty_n, ty_b, ty_i, ty_s, ty_t, isinM, asgC, setAll, List.map_cons, List.map_nil, List.cons_append, List.nil_append, List.length_cons, List.length_nil, List.replicate_succ, List.replicate_zero, List.getElem?_cons_zero, List.getElem?_cons_succ, List.getElem?_nil, List.set_cons_zero, List.set_cons_succ, if_true, if_false, Bool.not_true, Bool.not_false, Bool.false_eq_true, Option.map_some, Option.map_none, List.any_cons, List.any_nil, Bool.or_false, Bool.false_or, Bool.or_true, Bool.true_or, Bool.and_true, Bool.true_and, Bool.false_and, Bool.and_false, beq_self_eq_true, String.reduceBEq, decide_true, decide_false, Nat.reduceAdd, Nat.reduceSub, Nat.zero_add, Int.natAbs_natCast, and_self, true_and, and_true, List.isEmpty_cons, List.isEmpty_nil, Option.isSome_some, Option.isSome_none, List.append_nil, sl_s (Nat.le_of_lt hl), cut5, sw_m, h1, l_s (Nat.le_of_lt hl2), dec6, h2, hn]
      unfold isP
      simp only [List.length_cons, List.length_nil, Nat.reduceAdd, h1, h2, decide_true, Bool.true_and]
    · refine ⟨[], ?_⟩
      rw [call_at (k := 3) (b := c43) rfl]
      unfold runC c43
      generalize (CE.not (.lc (.v 2) (.one 2) 0 [.v 1] [.tcmp .NotIn (.v 2) (.k (.str [48, 49, 50, 51, 52, 53, 54, 55, 56, 57]))] [2])) = N at hn ⊢
      simp only [evB, evS, evE, evT, evEs, evBo, evBoT, evIfC, evP, evI, bind_ok, bind_ex, bind_err, then_ok, then_ex, then_err, opt_some, opt_none, gd_f, gd_ok, t_non, t_bl, t_int, t_tup, b_ii, b_sub, c_eq_i, c_ne_i, c_eq_s, c_ne_s, c_eq_b, c_ne_b, c_lt_i, c_gt_i, c_le_i, c_ge_i, m_lt_i, m_le_i, m_le_s, c_is_n, c_isn_n, c_is_b, c_isn_b, is_n, is_i, is_s, is_b, is_t, is_r, c_in_c, c_nin_c, l_t, i_i, o_c, ix_t, ty_n, ty_b, ty_i, ty_s, ty_t, isinM, asgC, setAll, List.map_cons, List.map_nil, List.cons_append, List.nil_append, List.length_cons, List.length_nil, List.replicate_succ, List.replicate_zero, List.getElem?_cons_zero, List.getElem?_cons_succ, List.getElem?_nil, List.set_cons_zero, List.set_cons_succ, if_true, if_false, Bool.not_true, Bool.not_false, Bool.false_eq_true, Option.map_some, Option.map_none, List.any_cons, List.any_nil, Bool.or_false, Bool.false_or, Bool.or_true, Bool.true_or, Bool.and_true, Bool.true_and, Bool.false_and, Bool.and_false, beq_self_eq_true, String.reduceBEq, decide_true, decide_false, Nat.reduceAdd, Nat.reduceSub, Nat.zero_add, Int.natAbs_natCast, and_self, true_and, and_true, List.isEmpty_cons, List.isEmpty_nil, Option.isSome_some, Option.isSome_none, List.append_nil, sl_s (Nat.le_of_lt hl), cut5, sw_m, h1, l_s (Nat.le_of_lt hl2), dec6, h2]
      unfold isP
      simp only [List.length_cons, List.length_nil, Nat.reduceAdd, h1, h2, decide_false, Bool.false_and, Bool.and_false]
  · refine ⟨[], ?_⟩
    have h1' : (s.take 5 == [115, 110, 97, 112, 46]) = false := by simpa using h1
    rw [call_at (k := 3) (b := c43) rfl]
    unfold runC c43
    simp only [evB, evS, evE, evT, evEs, evBo, evBoT, evIfC, evP, evI, bind_ok, bind_ex, bind_err, then_ok, then_ex, then_err, opt_some, opt_none, gd_f, gd_ok, t_non, t_bl, t_int, t_tup, b_ii, b_sub, c_eq_i, c_ne_i, c_eq_s, c_ne_s, c_eq_b, c_ne_b, c_lt_i, c_gt_i, c_le_i, c_ge_i, m_lt_i, m_le_i, m_le_s, c_is_n, c_isn_n, c_is_b, c_isn_b, is_n, is_i, is_s, is_b, is_t, is_r, c_in_c, c_nin_c, l_t, i_i, o_c, ix_t, ty_n, ty_b, ty_i, ty_s, ty_t, isinM, asgC, setAll, List.map_cons, List.map_nil, List.cons_append, List.nil_append, List.length_cons, List.length_nil, List.replicate_succ, List.replicate_zero, List.getElem?_cons_zero, List.getElem?_cons_succ, List.getElem?_nil, List.set_cons_zero, List.set_cons_succ, if_true, if_false, Bool.not_true, Bool.not_false, Bool.false_eq_true, Option.map_some, Option.map_none, List.any_cons, List.any_nil, Bool.or_false, Bool.false_or, Bool.or_true, Bool.true_or, Bool.and_true, Bool.true_and, Bool.false_and, Bool.and_false, beq_self_eq_true, String.reduceBEq, decide_true, decide_false, Nat.reduceAdd, Nat.reduceSub, Nat.zero_add, Int.natAbs_natCast, and_self, true_and, and_true, List.isEmpty_cons, List.isEmpty_nil, Option.isSome_some, Option.isSome_none, List.append_nil, sl_s (Nat.le_of_lt hl), cut5, sw_m, h1']
    unfold isP
    simp only [List.length_cons, List.length_nil, Nat.reduceAdd, h1', Bool.false_and]
theorem r11 (n : Nat) (s : List Nat) (h : MH) (hl : s.length < lim) : ∃ g, cc (n + 1) 11 [.str s] h = .ok (.bl (isP [112, 97, 103, 101, 115, 46] s)) (h ++ g) := by
  have hl2 : (s.drop 6).length < lim := by rw [List.length_drop]; omega
  obtain ⟨g, L, e, eL⟩ := dig_lc (cc n) (s.drop 6) (wipeM [some (.str s), some (.str (s.drop 6)), none] [2]) 2 h (by simp [wipeM]) hl2
  have hn : evE gs (cc n) (CE.not (.lc (.v 2) (.one 2) 0 [.v 1] [.tcmp .NotIn (.v 2) (.k (.str [48, 49, 50, 51, 52, 53, 54, 55, 56, 57]))] [2])) [some (.str s), some (.str (s.drop 6)), none] h = .ok (.bl ((s.drop 6).all fun c => decide (c ∈ DIG))) (h ++ .lst L :: g) := by
    rw [← eL]
    refine not_lst ?_ get_mid
    rw [← e]
    simp only [evE, evI, bind_ok, List.getElem?_cons_zero, List.getElem?_cons_succ, it_s (Nat.le_of_lt hl2), opt_some, It.fuel, List.length_map]
  by_cases h1 : (s.take 6 == [112, 97, 103, 101, 115, 46]) = true
  · by_cases h2 : (s.drop 6).length = 6
    · refine ⟨.lst L :: g, ?_⟩
      rw [call_at (k := 3) (b := c11) rfl]
      unfold runC c11
      generalize (CE.not (.lc (.v 2) (.one 2) 0 [.v 1] [.tcmp .NotIn (.v 2) (.k (.str [48, 49, 50, 51, 52, 53, 54, 55, 56, 57]))] [2])) = N at hn ⊢
      simp only [evB, evS, evE, evT, evEs, evBo, evBoT, evIfC, evP, evI, bind_ok, bind_ex, bind_err, then_ok, then_ex, then_err, opt_some, opt_none, gd_f, gd_ok, t_non, t_bl, t_int, t_tup, b_ii, b_sub, c_eq_i, c_ne_i, c_eq_s, c_ne_s, c_eq_b, c_ne_b, c_lt_i, c_gt_i, c_le_i, c_ge_i, m_lt_i, m_le_i, m_le_s, c_is_n, c_isn_n, c_is_b, c_isn_b, is_n, is_i, is_s, is_b, is_t, is_r, c_in_c, c_nin_c, l_t, i_i, o_c, ix_t, ty_n, ty_b, ty_i, ty_s, ty_t, isinM, asgC, setAll, List.map_cons, List.map_nil, List.cons_append, List.nil_append, List.length_cons, List.length_nil, List.replicate_succ, List.replicate_zero, List.getElem?_cons_zero, List.getElem?_cons_succ, List.getElem?_nil, List.set_cons_zero, List.set_cons_succ, if_true, if_false, Bool.not_true, Bool.not_false, Bool.false_eq_true, Option.map_some, Option.map_none, List.any_cons, List.any_nil, Bool.or_false, Bool.false_or, Bool.or_true, Bool.true_or, Bool.and_true, Bool.true_and, Bool.false_and, Bool.and_false, beq_self_eq_true, String.reduceBEq, decide_true, decide_false, Nat.reduceAdd, Nat.reduceSub, Nat.zero_add, Int.natAbs_natCast, and_self, true_and, and_true, List.isEmpty_cons, List.isEmpty_nil, Option.isSome_some, Option.isSome_none, List.append_nil, sl_s (Nat.le_of_lt hl), cut6, sw_m, h1, l_s (Nat.le_of_lt hl2), dec6, h2, hn]
      unfold isP
      simp only [List.length_cons, List.length_nil, Nat.reduceAdd, h1, h2, decide_true, Bool.true_and]
    · refine ⟨[], ?_⟩
      rw [call_at (k := 3) (b := c11) rfl]
      unfold runC c11
      generalize (CE.not (.lc (.v 2) (.one 2) 0 [.v 1] [.tcmp .NotIn (.v 2) (.k (.str [48, 49, 50, 51, 52, 53, 54, 55, 56, 57]))] [2])) = N at hn ⊢
      simp only [evB, evS, evE, evT, evEs, evBo, evBoT, evIfC, evP, evI, bind_ok, bind_ex, bind_err, then_ok, then_ex, then_err, opt_some, opt_none, gd_f, gd_ok, t_non, t_bl, t_int, t_tup, b_ii, b_sub, c_eq_i, c_ne_i, c_eq_s, c_ne_s, c_eq_b, c_ne_b, c_lt_i, c_gt_i, c_le_i, c_ge_i, m_lt_i, m_le_i, m_le_s, c_is_n, c_isn_n, c_is_b, c_isn_b, is_n, is_i, is_s, is_b, is_t, is_r, c_in_c, c_nin_c, l_t, i_i, o_c, ix_t, ty_n, ty_b, ty_i, ty_s, ty_t, isinM, asgC, setAll, List.map_cons, List.map_nil, List.cons_append, List.nil_append, List.length_cons, List.length_nil, List.replicate_succ, List.replicate_zero, List.getElem?_cons_zero, List.getElem?_cons_succ, List.getElem?_nil, List.set_cons_zero, List.set_cons_succ, if_true, if_false, Bool.not_true, Bool.not_false, Bool.false_eq_true, Option.map_some, Option.map_none, List.any_cons, List.any_nil, Bool.or_false, Bool.false_or, Bool.or_true, Bool.true_or, Bool.and_true, Bool.true_and, Bool.false_and, Bool.and_false, beq_self_eq_true, String.reduceBEq, decide_true, decide_false, Nat.reduceAdd, Nat.reduceSub, Nat.zero_add, Int.natAbs_natCast, and_self, true_and, and_true, List.isEmpty_cons, List.isEmpty_nil, Option.isSome_some, Option.isSome_none, List.append_nil, sl_s (Nat.le_of_lt hl), cut6, sw_m, h1, l_s (Nat.le_of_lt hl2), dec6, h2]
      unfold isP
      simp only [List.length_cons, List.length_nil, Nat.reduceAdd, h1, h2, decide_false, Bool.false_and, Bool.and_false]
  · refine ⟨[], ?_⟩
    have h1' : (s.take 6 == [112, 97, 103, 101, 115, 46]) = false := by simpa using h1
    rw [call_at (k := 3) (b := c11) rfl]
    unfold runC c11
    generalize (CE.not (.lc (.v 2) (.one 2) 0 [.v 1] [.tcmp .NotIn (.v 2) (.k (.str [48, 49, 50, 51, 52, 53, 54, 55, 56, 57]))] [2])) = N at hn ⊢
    simp only [evB, evS, evE, evT, evEs, evBo, evBoT, evIfC, evP, evI, bind_ok, bind_ex, bind_err, then_ok, then_ex, then_err, opt_some, opt_none, gd_f, gd_ok, t_non, t_bl, t_int, t_tup, b_ii, b_sub, c_eq_i, c_ne_i, c_eq_s, c_ne_s, c_eq_b, c_ne_b, c_lt_i, c_gt_i, c_le_i, c_ge_i, m_lt_i, m_le_i, m_le_s, c_is_n, c_isn_n, c_is_b, c_isn_b, is_n, is_i, is_s, is_b, is_t, is_r, c_in_c, c_nin_c, l_t, i_i, o_c, ix_t, ty_n, ty_b, ty_i, ty_s, ty_t, isinM, asgC, setAll, List.map_cons, List.map_nil, List.cons_append, List.nil_append, List.length_cons, List.length_nil, List.replicate_succ, List.replicate_zero, List.getElem?_cons_zero, List.getElem?_cons_succ, List.getElem?_nil, List.set_cons_zero, List.set_cons_succ, if_true, if_false, Bool.not_true, Bool.not_false, Bool.false_eq_true, Option.map_some, Option.map_none, List.any_cons, List.any_nil, Bool.or_false, Bool.false_or, Bool.or_true, Bool.true_or, Bool.and_true, Bool.true_and, Bool.false_and, Bool.and_false, beq_self_eq_true, String.reduceBEq, decide_true, decide_false, Nat.reduceAdd, Nat.reduceSub, Nat.zero_add, Int.natAbs_natCast, and_self, true_and, and_true, List.isEmpty_cons, List.isEmpty_nil, Option.isSome_some, Option.isSome_none, List.append_nil, sl_s (Nat.le_of_lt hl), cut6, sw_m, h1']
    unfold isP
    simp only [List.length_cons, List.length_nil, Nat.reduceAdd, h1', Bool.false_and]
theorem dig_all {s : List Nat} (h : (s.all fun c => decide (c ∈ DIG)) = true) : NumText.AllDigits s := by
  intro c hc
  have := List.all_eq_true.mp h c hc
  simp only [DIG, List.mem_cons, List.not_mem_nil, or_false, decide_eq_true_eq] at this
  omega
theorem isP_drop {P s : List Nat} (h : isP P s = true) : (s.drop P.length).length = 6 ∧ NumText.AllDigits (s.drop P.length) := by
  unfold isP at h
  simp only [Bool.and_eq_true, decide_eq_true_eq] at h
  exact ⟨h.2.1, dig_all h.2.2⟩
theorem r41 (n : Nat) (s : List Nat) (h : MH) (hl : s.length < lim) (hp : isP [108, 111, 103, 46] s = true) : ∃ g, cc (n + 2) 41 [.str s] h = .ok (.int (NumText.digitsVal (s.drop 4) : Nat)) (h ++ g) := by
  obtain ⟨g, e⟩ := r40 n s h hl
  rw [hp] at e
  obtain ⟨d1, d2⟩ := isP_drop hp
  have d1 : (s.drop 4).length = 6 := d1
  have d2 : NumText.AllDigits (s.drop 4) := d2
  refine ⟨g, ?_⟩
  rw [call_at (k := 1) (b := c41) rfl]
  unfold runC c41
  have hi := int_digits d2 (by intro z; rw [z] at d1; cases d1) (by omega)
  simp only [evB, evS, evE, evT, evEs, evBo, evBoT, evIfC, evP, evI, bind_ok, bind_ex, bind_err, then_ok, then_ex, then_err, opt_some, opt_none, gd_f, gd_ok, t_non, t_bl, t_int, t_tup, b_ii, b_sub, c_eq_i, c_ne_i, c_eq_s, c_ne_s, c_eq_b, c_ne_b, c_lt_i, c_gt_i, c_le_i, c_ge_i, m_lt_i, m_le_i, m_le_s, c_is_n, c_isn_n, c_is_b, c_isn_b, is_n, is_i, is_s, is_b, is_t, is_r, c_in_c, c_nin_c, l_t, i_i, o_c, ix_t, ty_n, ty_b, ty_i, ty_s, ty_t, isinM, asgC, setAll, List.map_cons, List.map_nil, List.cons_append, List.nil_append, List.length_cons, List.length_nil, List.replicate_succ, List.replicate_zero, List.getElem?_cons_zero, List.getElem?_cons_succ, List.getElem?_nil, List.set_cons_zero, List.set_cons_succ, if_true, if_false, Bool.not_true, Bool.not_false, Bool.false_eq_true, Option.map_some, Option.map_none, List.any_cons, List.any_nil, Bool.or_false, Bool.false_or, Bool.or_true, Bool.true_or, Bool.and_true, Bool.true_and, Bool.false_and, Bool.and_false, beq_self_eq_true, String.reduceBEq, decide_true, decide_false, Nat.reduceAdd, Nat.reduceSub, Nat.zero_add, Int.natAbs_natCast, and_self, true_and, and_true, List.isEmpty_cons, List.isEmpty_nil, Option.isSome_some, Option.isSome_none, List.append_nil, e, sl_s (Nat.le_of_lt hl), cut4, i_s (show (s.drop 4).length ≤ 640 by omega) hi]
theorem r41x (n : Nat) (s : List Nat) (h : MH) (hl : s.length < lim) (hp : isP [108, 111, 103, 46] s = false) : ∃ g, cc (n + 2) 41 [.str s] h = .ex ⟨3, []⟩ (h ++ g) := by
  obtain ⟨g, e⟩ := r40 n s h hl
  rw [hp] at e
  refine ⟨g, ?_⟩
  rw [call_at (k := 1) (b := c41) rfl]
  unfold runC c41
  simp only [evB, evS, evE, evT, evEs, evBo, evBoT, evIfC, evP, evI, bind_ok, bind_ex, bind_err, then_ok, then_ex, then_err, opt_some, opt_none, gd_f, gd_ok, t_non, t_bl, t_int, t_tup, b_ii, b_sub, c_eq_i, c_ne_i, c_eq_s, c_ne_s, c_eq_b, c_ne_b, c_lt_i, c_gt_i, c_le_i, c_ge_i, m_lt_i, m_le_i, m_le_s, c_is_n, c_isn_n, c_is_b, c_isn_b, is_n, is_i, is_s, is_b, is_t, is_r, c_in_c, c_nin_c, l_t, i_i, o_c, ix_t, ty_n, ty_b, ty_i, ty_s, ty_t, isinM, asgC, setAll, List.map_cons, List.map_nil, List.cons_append, List.nil_append, List.length_cons, List.length_nil, List.replicate_succ, List.replicate_zero, List.getElem?_cons_zero, List.getElem?_cons_succ, List.getElem?_nil, List.set_cons_zero, List.set_cons_succ, if_true, if_false, Bool.not_true, Bool.not_false, Bool.false_eq_true, Option.map_some, Option.map_none, List.any_cons, List.any_nil, Bool.or_false, Bool.false_or, Bool.or_true, Bool.true_or, Bool.and_true, Bool.true_and, Bool.false_and, Bool.and_false, beq_self_eq_true, String.reduceBEq, decide_true, decide_false, Nat.reduceAdd, Nat.reduceSub, Nat.zero_add, Int.natAbs_natCast, and_self, true_and, and_true, List.isEmpty_cons, List.isEmpty_nil, Option.isSome_some, Option.isSome_none, List.append_nil, e]
theorem r45 (n : Nat) (s : List Nat) (h : MH) (hl : s.length < lim) (hp : isP [115, 110, 97, 112, 46] s = true) : ∃ g, cc (n + 2) 45 [.str s] h = .ok (.int (NumText.digitsVal (s.drop 5) : Nat)) (h ++ g) := by
  obtain ⟨g, e⟩ := r43 n s h hl
  rw [hp] at e
  obtain ⟨d1, d2⟩ := isP_drop hp
  have d1 : (s.drop 5).length = 6 := d1
  have d2 : NumText.AllDigits (s.drop 5) := d2
  refine ⟨g, ?_⟩
  rw [call_at (k := 1) (b := c45) rfl]
  unfold runC c45
  have hi := int_digits d2 (by intro z; rw [z] at d1; cases d1) (by omega)
  simp only [evB, evS, evE, evT, evEs, evBo, evBoT, evIfC, evP, evI, bind_ok, bind_ex, bind_err, then_ok, then_ex, then_err, opt_some, opt_none, gd_f, gd_ok, t_non, t_bl, t_int, t_tup, b_ii, b_sub, c_eq_i, c_ne_i, c_eq_s, c_ne_s, c_eq_b, c_ne_b, c_lt_i, c_gt_i, c_le_i, c_ge_i, m_lt_i, m_le_i, m_le_s, c_is_n, c_isn_n, c_is_b, c_isn_b, is_n, is_i, is_s, is_b, is_t, is_r, c_in_c, c_nin_c, l_t, i_i, o_c, ix_t, ty_n, ty_b, ty_i, ty_s, ty_t, isinM, asgC, setAll, List.map_cons, List.map_nil, List.cons_append, List.nil_append, List.length_cons, List.length_nil, List.replicate_succ, List.replicate_zero, List.getElem?_cons_zero, List.getElem?_cons_succ, List.getElem?_nil, List.set_cons_zero, List.set_cons_succ, if_true, if_false, Bool.not_true, Bool.not_false, Bool.false_eq_true, Option.map_some, Option.map_none, List.any_cons, List.any_nil, Bool.or_false, Bool.false_or, Bool.or_true, Bool.true_or, Bool.and_true, Bool.true_and, Bool.false_and, Bool.and_false, beq_self_eq_true, String.reduceBEq, decide_true, decide_false, Nat.reduceAdd, Nat.reduceSub, Nat.zero_add, Int.natAbs_natCast, and_self, true_and, and_true, List.isEmpty_cons, List.isEmpty_nil, Option.isSome_some, Option.isSome_none, List.append_nil, e, sl_s (Nat.le_of_lt hl), cut5, i_s (show (s.drop 5).length ≤ 640 by omega) hi]
theorem r45x (n : Nat) (s : List Nat) (h : MH) (hl : s.length < lim) (hp : isP [115, 110, 97, 112, 46] s = false) : ∃ g, cc (n + 2) 45 [.str s] h = .ex ⟨3, []⟩ (h ++ g) := by
  obtain ⟨g, e⟩ := r43 n s h hl
  rw [hp] at e
  refine ⟨g, ?_⟩
  rw [call_at (k := 1) (b := c45) rfl]
  unfold runC c45
  simp only [evB, evS, evE, evT, evEs, evBo, evBoT, evIfC, evP, evI, bind_ok, bind_ex, bind_err, then_ok, then_ex, then_err, opt_some, opt_none, gd_f, gd_ok, t_non, t_bl, t_int, t_tup, b_ii, b_sub, c_eq_i, c_ne_i, c_eq_s, c_ne_s, c_eq_b, c_ne_b, c_lt_i, c_gt_i, c_le_i, c_ge_i, m_lt_i, m_le_i, m_le_s, c_is_n, c_isn_n, c_is_b, c_isn_b, is_n, is_i, is_s, is_b, is_t, is_r, c_in_c, c_nin_c, l_t, i_i, o_c, ix_t, ty_n, ty_b, ty_i, ty_s, ty_t, isinM, asgC, setAll, List.map_cons, List.map_nil, List.cons_append, List.nil_append, List.length_cons, List.length_nil, List.replicate_succ, List.replicate_zero, List.getElem?_cons_zero, List.getElem?_cons_succ, List.getElem?_nil, List.set_cons_zero, List.set_cons_succ, if_true, if_false, Bool.not_true, Bool.not_false, Bool.false_eq_true, Option.map_some, Option.map_none, List.any_cons, List.any_nil, Bool.or_false, Bool.false_or, Bool.or_true, Bool.true_or, Bool.and_true, Bool.true_and, Bool.false_and, Bool.and_false, beq_self_eq_true, String.reduceBEq, decide_true, decide_false, Nat.reduceAdd, Nat.reduceSub, Nat.zero_add, Int.natAbs_natCast, and_self, true_and, and_true, List.isEmpty_cons, List.isEmpty_nil, Option.isSome_some, Option.isSome_none, List.append_nil, e]
theorem six_cut (v : Nat) (hv : v < 1000000) : cutL ([48, 48, 48, 48, 48] ++ numL v) (some (-6)) none = six v := by
  have l6 := numL6 hv
  have l1 : 1 ≤ (numL v).length := by
    have := TL.numL_ne v
    cases hq : numL v with
    | nil => exact absurd hq this
    | cons a b => simp
  unfold cutL
  have e1 : HT.sIx ([48, 48, 48, 48, 48] ++ numL v).length 0 (some (-6)) = (numL v).length - 1 := by
    unfold HT.sIx
    dsimp only
    rw [if_pos (by decide)]
    simp only [List.length_append, List.length_cons, List.length_nil]
    omega
  have e2 : HT.sIx ([48, 48, 48, 48, 48] ++ numL v).length ([48, 48, 48, 48, 48] ++ numL v).length none = 5 + (numL v).length := by
    show ([48, 48, 48, 48, 48] ++ numL v).length = _
    simp only [List.length_append, List.length_cons, List.length_nil]
  rw [e1, e2]
  have e3 : ([48, 48, 48, 48, 48] : List Nat) = List.replicate 5 48 := rfl
  rw [e3, List.drop_append_of_le_length (by simp; omega), List.drop_replicate]
  rw [show 5 - ((numL v).length - 1) = 6 - (numL v).length by omega]
  unfold six
  rw [List.take_of_length_le]
  simp
  omega
theorem neg6 : (-(6 : Int)) = -6 := rfl
theorem r53 (n : Nat) (v : Nat) (h : MH) (hv : v < 1000000) : cc (n + 1) 53 [.int v] h = .ok (.str (six v)) h := by
  rw [call_at (k := 1) (b := c53) rfl]
  unfold runC c53
  have l := log_small hv
  have l6 := numL6 hv
  simp only [evB, evS, evE, evT, evEs, evBo, evBoT, evIfC, evP, evI, bind_ok, bind_ex, bind_err, then_ok, then_ex, then_err, opt_some, opt_none, gd_f, gd_ok, t_non, t_bl, t_int, t_tup, b_ii, b_sub, c_eq_i, c_ne_i, c_eq_s, c_ne_s, c_eq_b, c_ne_b, c_lt_i, c_gt_i, c_le_i, c_ge_i, m_lt_i, m_le_i, m_le_s, c_is_n, c_isn_n, c_is_b, c_isn_b, is_n, is_i, is_s, is_b, is_t, is_r, c_in_c, c_nin_c, l_t, i_i, o_c, ix_t, ty_n, ty_b, ty_i, ty_s, ty_t, isinM, asgC, setAll, List.map_cons, List.map_nil, List.cons_append, List.nil_append, List.length_cons, List.length_nil, List.replicate_succ, List.replicate_zero, List.getElem?_cons_zero, List.getElem?_cons_succ, List.getElem?_nil, List.set_cons_zero, List.set_cons_succ, if_true, if_false, Bool.not_true, Bool.not_false, Bool.false_eq_true, Option.map_some, Option.map_none, List.any_cons, List.any_nil, Bool.or_false, Bool.false_or, Bool.or_true, Bool.true_or, Bool.and_true, Bool.true_and, Bool.false_and, Bool.and_false, beq_self_eq_true, String.reduceBEq, decide_true, decide_false, Nat.reduceAdd, Nat.reduceSub, Nat.zero_add, Int.natAbs_natCast, and_self, true_and, and_true, List.isEmpty_cons, List.isEmpty_nil, Option.isSome_some, Option.isSome_none, List.append_nil, s_i (show (v : Int).natAbs.log2 < 1920 from l), tl_int]
  rw [b_ss (by simp only [List.length_cons, List.length_nil]; unfold lim; omega)]
  simp only [evB, evS, evE, evT, evEs, evBo, evBoT, evIfC, evP, evI, bind_ok, bind_ex, bind_err, then_ok, then_ex, then_err, opt_some, opt_none, gd_f, gd_ok, t_non, t_bl, t_int, t_tup, b_ii, b_sub, c_eq_i, c_ne_i, c_eq_s, c_ne_s, c_eq_b, c_ne_b, c_lt_i, c_gt_i, c_le_i, c_ge_i, m_lt_i, m_le_i, m_le_s, c_is_n, c_isn_n, c_is_b, c_isn_b, is_n, is_i, is_s, is_b, is_t, is_r, c_in_c, c_nin_c, l_t, i_i, o_c, ix_t, ty_n, ty_b, ty_i, ty_s, ty_t, isinM, asgC, setAll, List.map_cons, List.map_nil, List.cons_append, List.nil_append, List.length_cons, List.length_nil, List.replicate_succ, List.replicate_zero, List.getElem?_cons_zero, List.getElem?_cons_succ, List.getElem?_nil, List.set_cons_zero, List.set_cons_succ, if_true, if_false, Bool.not_true, Bool.not_false, Bool.false_eq_true, Option.map_some, Option.map_none, List.any_cons, List.any_nil, Bool.or_false, Bool.false_or, Bool.or_true, Bool.true_or, Bool.and_true, Bool.true_and, Bool.false_and, Bool.and_false, beq_self_eq_true, String.reduceBEq, decide_true, decide_false, Nat.reduceAdd, Nat.reduceSub, Nat.zero_add, Int.natAbs_natCast, and_self, true_and, and_true, List.isEmpty_cons, List.isEmpty_nil, Option.isSome_some, Option.isSome_none, List.append_nil]
  rw [sl_s (by simp only [List.length_cons]; unfold lim; omega)]
  have := six_cut v hv
  simp only [List.cons_append, List.nil_append] at this
  simp only [evB, evS, evE, evT, evEs, evBo, evBoT, evIfC, evP, evI, bind_ok, bind_ex, bind_err, then_ok, then_ex, then_err, opt_some, opt_none, gd_f, gd_ok, t_non, t_bl, t_int, t_tup, b_ii, b_sub, c_eq_i, c_ne_i, c_eq_s, c_ne_s, c_eq_b, c_ne_b, c_lt_i, c_gt_i, c_le_i, c_ge_i, m_lt_i, m_le_i, m_le_s, c_is_n, c_isn_n, c_is_b, c_isn_b, is_n, is_i, is_s, is_b, is_t, is_r, c_in_c, c_nin_c, l_t, i_i, o_c, ix_t, ty_n, ty_b, ty_i, ty_s, ty_t, isinM, asgC, setAll, List.map_cons, List.map_nil, List.cons_append, List.nil_append, List.length_cons, List.length_nil, List.replicate_succ, List.replicate_zero, List.getElem?_cons_zero, List.getElem?_cons_succ, List.getElem?_nil, List.set_cons_zero, List.set_cons_succ, if_true, if_false, Bool.not_true, Bool.not_false, Bool.false_eq_true, Option.map_some, Option.map_none, List.any_cons, List.any_nil, Bool.or_false, Bool.false_or, Bool.or_true, Bool.true_or, Bool.and_true, Bool.true_and, Bool.false_and, Bool.and_false, beq_self_eq_true, String.reduceBEq, decide_true, decide_false, Nat.reduceAdd, Nat.reduceSub, Nat.zero_add, Int.natAbs_natCast, and_self, true_and, and_true, List.isEmpty_cons, List.isEmpty_nil, Option.isSome_some, Option.isSome_none, List.append_nil, this]
theorem isA11 : isA gs 1 1 = some true := by kernel_rfl
theorem isA33 : isA gs 3 3 = some true := by kernel_rfl
theorem r54 (n : Nat) (kind : List Nat) (v : Int) (h : MH) (hv : ¬ (0 ≤ v ∧ v ≤ 999999)) : cc (n + 4) 54 [.str kind, .int v] h = .ok (.bl true) h := by
  rw [call_at (k := 2) (b := c54) rfl]
  unfold runC c54
  by_cases h1 : kind = [112, 97, 114, 116]
  · simp only [evB, evS, evE, evT, evEs, evBo, evBoT, evIfC, evP, evI, bind_ok, bind_ex, bind_err, then_ok, then_ex, then_err, opt_some, opt_none, gd_f, gd_ok, t_non, t_bl, t_int, t_tup, b_ii, b_sub, c_eq_i, c_ne_i, c_eq_s, c_ne_s, c_eq_b, c_ne_b, c_lt_i, c_gt_i, c_le_i, c_ge_i, m_lt_i, m_le_i, m_le_s, c_is_n, c_isn_n, c_is_b, c_isn_b, is_n, is_i, is_s, is_b, is_t, is_r, c_in_c, c_nin_c, l_t, i_i, o_c, ix_t, ty_n, ty_b, ty_i, ty_s, ty_t, isinM, asgC, setAll, List.map_cons, List.map_nil, List.cons_append, List.nil_append, List.length_cons, List.length_nil, List.replicate_succ, List.replicate_zero, List.getElem?_cons_zero, List.getElem?_cons_succ, List.getElem?_nil, List.set_cons_zero, List.set_cons_succ, if_true, if_false, Bool.not_true, Bool.not_false, Bool.false_eq_true, Option.map_some, Option.map_none, List.any_cons, List.any_nil, Bool.or_false, Bool.false_or, Bool.or_true, Bool.true_or, Bool.and_true, Bool.true_and, Bool.false_and, Bool.and_false, beq_self_eq_true, String.reduceBEq, decide_true, decide_false, Nat.reduceAdd, Nat.reduceSub, Nat.zero_add, Int.natAbs_natCast, and_self, true_and, and_true, List.isEmpty_cons, List.isEmpty_nil, Option.isSome_some, Option.isSome_none, List.append_nil, h1, r38x n v h hv, isA11]
  · by_cases h2 : kind = [115, 110, 97, 112]
    · have h3 : ¬ ([115, 110, 97, 112] : List Nat) = [112, 97, 114, 116] := by decide
      simp only [evB, evS, evE, evT, evEs, evBo, evBoT, evIfC, evP, evI, bind_ok, bind_ex, bind_err, then_ok, then_ex, then_err, opt_some, opt_none, gd_f, gd_ok, t_non, t_bl, t_int, t_tup, b_ii, b_sub, c_eq_i, c_ne_i, c_eq_s, c_ne_s, c_eq_b, c_ne_b, c_lt_i, c_gt_i, c_le_i, c_ge_i, m_lt_i, m_le_i, m_le_s, c_is_n, c_isn_n, c_is_b, c_isn_b, is_n, is_i, is_s, is_b, is_t, is_r, c_in_c, c_nin_c, l_t, i_i, o_c, ix_t, ty_n, ty_b, ty_i, ty_s, ty_t, isinM, asgC, setAll, List.map_cons, List.map_nil, List.cons_append, List.nil_append, List.length_cons, List.length_nil, List.replicate_succ, List.replicate_zero, List.getElem?_cons_zero, List.getElem?_cons_succ, List.getElem?_nil, List.set_cons_zero, List.set_cons_succ, if_true, if_false, Bool.not_true, Bool.not_false, Bool.false_eq_true, Option.map_some, Option.map_none, List.any_cons, List.any_nil, Bool.or_false, Bool.false_or, Bool.or_true, Bool.true_or, Bool.and_true, Bool.true_and, Bool.false_and, Bool.and_false, beq_self_eq_true, String.reduceBEq, decide_true, decide_false, Nat.reduceAdd, Nat.reduceSub, Nat.zero_add, Int.natAbs_natCast, and_self, true_and, and_true, List.isEmpty_cons, List.isEmpty_nil, Option.isSome_some, Option.isSome_none, List.append_nil, h1, h2, h3, r42x n v h hv, isA11]
    · simp only [evB, evS, evE, evT, evEs, evBo, evBoT, evIfC, evP, evI, bind_ok, bind_ex, bind_err, then_ok, then_ex, then_err, opt_some, opt_none, gd_f, gd_ok, t_non, t_bl, t_int, t_tup, b_ii, b_sub, c_eq_i, c_ne_i, c_eq_s, c_ne_s, c_eq_b, c_ne_b, c_lt_i, c_gt_i, c_le_i, c_ge_i, m_lt_i, m_le_i, m_le_s, c_is_n, c_isn_n, c_is_b, c_isn_b, is_n, is_i, is_s, is_b, is_t, is_r, c_in_c, c_nin_c, l_t, i_i, o_c, ix_t, ty_n, ty_b, ty_i, ty_s, ty_t, isinM, asgC, setAll, List.map_cons, List.map_nil, List.cons_append, List.nil_append, List.length_cons, List.length_nil, List.replicate_succ, List.replicate_zero, List.getElem?_cons_zero, List.getElem?_cons_succ, List.getElem?_nil, List.set_cons_zero, List.set_cons_succ, if_true, if_false, Bool.not_true, Bool.not_false, Bool.false_eq_true, Option.map_some, Option.map_none, List.any_cons, List.any_nil, Bool.or_false, Bool.false_or, Bool.or_true, Bool.true_or, Bool.and_true, Bool.true_and, Bool.false_and, Bool.and_false, beq_self_eq_true, String.reduceBEq, decide_true, decide_false, Nat.reduceAdd, Nat.reduceSub, Nat.zero_add, Int.natAbs_natCast, and_self, true_and, and_true, List.isEmpty_cons, List.isEmpty_nil, Option.isSome_some, Option.isSome_none, List.append_nil, h1, h2, r10x n v h hv, isA11]
theorem r55 (n : Nat) (kind s : List Nat) (h : MH) (hl : s.length < lim) (h1 : isP [108, 111, 103, 46] s = false) (h2 : isP [115, 110, 97, 112, 46] s = false) : ∃ g, cc (n + 3) 55 [.str kind, .str s] h = .ok (.bl true) (h ++ g) := by
  obtain ⟨g1, e1⟩ := r41x n s h hl h1
  obtain ⟨g2, e2⟩ := r45x n s h hl h2
  by_cases hk : kind = [112, 97, 114, 116]
  · refine ⟨g1, ?_⟩
    rw [call_at (k := 2) (b := c55) rfl]
    unfold runC c55
    simp only [evB, evS, evE, evT, evEs, evBo, evBoT, evIfC, evP, evI, bind_ok, bind_ex, bind_err, then_ok, then_ex, then_err, opt_some, opt_none, gd_f, gd_ok, t_non, t_bl, t_int, t_tup, b_ii, b_sub, c_eq_i, c_ne_i, c_eq_s, c_ne_s, c_eq_b, c_ne_b, c_lt_i, c_gt_i, c_le_i, c_ge_i, m_lt_i, m_le_i, m_le_s, c_is_n, c_isn_n, c_is_b, c_isn_b, is_n, is_i, is_s, is_b, is_t, is_r, c_in_c, c_nin_c, l_t, i_i, o_c, ix_t, ty_n, ty_b, ty_i, ty_s, ty_t, isinM, asgC, setAll, List.map_cons, List.map_nil, List.cons_append, List.nil_append, List.length_cons, List.length_nil, List.replicate_succ, List.replicate_zero, List.getElem?_cons_zero, List.getElem?_cons_succ, List.getElem?_nil, List.set_cons_zero, List.set_cons_succ, if_true, if_false, Bool.not_true, Bool.not_false, Bool.false_eq_true, Option.map_some, Option.map_none, List.any_cons, List.any_nil, Bool.or_false, Bool.false_or, Bool.or_true, Bool.true_or, Bool.and_true, Bool.true_and, Bool.false_and, Bool.and_false, beq_self_eq_true, String.reduceBEq, decide_true, decide_false, Nat.reduceAdd, Nat.reduceSub, Nat.zero_add, Int.natAbs_natCast, and_self, true_and, and_true, List.isEmpty_cons, List.isEmpty_nil, Option.isSome_some, Option.isSome_none, List.append_nil, hk, e1, isA33]
  · refine ⟨g2, ?_⟩
    rw [call_at (k := 2) (b := c55) rfl]
    unfold runC c55
    simp only [evB, evS, evE, evT, evEs, evBo, evBoT, evIfC, evP, evI, bind_ok, bind_ex, bind_err, then_ok, then_ex, then_err, opt_some, opt_none, gd_f, gd_ok, t_non, t_bl, t_int, t_tup, b_ii, b_sub, c_eq_i, c_ne_i, c_eq_s, c_ne_s, c_eq_b, c_ne_b, c_lt_i, c_gt_i, c_le_i, c_ge_i, m_lt_i, m_le_i, m_le_s, c_is_n, c_isn_n, c_is_b, c_isn_b, is_n, is_i, is_s, is_b, is_t, is_r, c_in_c, c_nin_c, l_t, i_i, o_c, ix_t, ty_n, ty_b, ty_i, ty_s, ty_t, isinM, asgC, setAll, List.map_cons, List.map_nil, List.cons_append, List.nil_append, List.length_cons, List.length_nil, List.replicate_succ, List.replicate_zero, List.getElem?_cons_zero, List.getElem?_cons_succ, List.getElem?_nil, List.set_cons_zero, List.set_cons_succ, if_true, if_false, Bool.not_true, Bool.not_false, Bool.false_eq_true, Option.map_some, Option.map_none, List.any_cons, List.any_nil, Bool.or_false, Bool.false_or, Bool.or_true, Bool.true_or, Bool.and_true, Bool.true_and, Bool.false_and, Bool.and_false, beq_self_eq_true, String.reduceBEq, decide_true, decide_false, Nat.reduceAdd, Nat.reduceSub, Nat.zero_add, Int.natAbs_natCast, and_self, true_and, and_true, List.isEmpty_cons, List.isEmpty_nil, Option.isSome_some, Option.isSome_none, List.append_nil, hk, e2, isA33]
end Pg
end

section
set_option linter.all false
set_option maxRecDepth 100000
set_option maxHeartbeats 1000000
namespace Pg
open PySem PySem.Spec L2 Mn
open TL (numL)
def resOf : SR → Res MV
  | .nx _ h1 => .ok .non h1
  | .rt v h1 => .ok v h1
  | .ex e _ h1 => .ex e h1
  | _ => .err
theorem call_res {n i k : Nat} {b : List CS} (h : T[i]? = some (k, b)) (vs : List MV) (h0 : MH) : cc (n + 1) i vs h0 = resOf (evB gs (cc n) b (vs.map some ++ List.replicate (k - vs.length) none) h0) := by
  rw [call_at h]
  unfold runC
  cases evB gs (cc n) b (vs.map some ++ List.replicate (k - vs.length) none) h0 <;> rfl
/-! ### the stream of numbers -/
theorem gt_l {h : MH} {a : Nat} {xs : List MV} {i : Int} (e : h[a]? = some (.lst xs)) : gtM h (.ref a) (.int i) = atI xs i := by simp only [gtM, e]
theorem set_l {h : MH} {a j : Nat} {xs : List MV} {i : Int} {v : MV} (e : h[a]? = some (.lst xs)) (k : ixN xs.length i = some j) : setM h (.ref a) (.int i) v = some (h.set a (.lst (xs.set j v))) := by simp only [setM, e, k]
theorem set_same {h : MH} {a : Nat} {o : MO} (e : h[a]? = some o) : h.set a o = h := by
  refine List.ext_getElem? fun i => ?_
  by_cases hi : i = a
  · subst hi
    rw [List.getElem?_set_self (List.getElem?_eq_some_iff.mp e).1, e]
  · rw [List.getElem?_set_ne (Ne.symm hi)]
theorem get_set {h : MH} {a : Nat} {o p : MO} (e : h[a]? = some o) : (h.set a p)[a]? = some p := List.getElem?_set_self (List.getElem?_eq_some_iff.mp e).1
theorem get_set_ne {h : MH} {a b : Nat} {p : MO} (e : a ≠ b) : (h.set a p)[b]? = h[b]? := List.getElem?_set_ne e
def stL (q : Nat) (i a b : Int) : List MV := [.ref q, .int i, .int a, .int b]
theorem at0 {q : Nat} {i a b : Int} : atI (stL q i a b) 0 = some (.ref q) := rfl
theorem at1 {q : Nat} {i a b : Int} : atI (stL q i a b) 1 = some (.int i) := rfl
theorem at2 {q : Nat} {i a b : Int} : atI (stL q i a b) 2 = some (.int a) := rfl
theorem at3 {q : Nat} {i a b : Int} : atI (stL q i a b) 3 = some (.int b) := rfl
theorem sx1 {q : Nat} {i a b : Int} : ixN (stL q i a b).length 1 = some 1 := rfl
theorem sx2 {q : Nat} {i a b : Int} : ixN (stL q i a b).length 2 = some 2 := rfl
theorem sx3 {q : Nat} {i a b : Int} : ixN (stL q i a b).length 3 = some 3 := rfl
theorem ss1 {q : Nat} {i a b v : Int} : (stL q i a b).set 1 (.int v) = stL q v a b := rfl
theorem ss2 {q : Nat} {i a b v : Int} : (stL q i a b).set 2 (.int v) = stL q i v b := rfl
theorem ss3 {q : Nat} {i a b v : Int} : (stL q i a b).set 3 (.int v) = stL q i a v := rfl
def nxA : CS := .ite (.tbo .And [.tcmp .Eq (.ix (.v 0) (.k (.int 2))) (.k (.int 0)), .tcmp .Lt (.ix (.v 0) (.k (.int 1))) (.blt .len [.ix (.v 0) (.k (.int 0))])]) [.set 2 (.ix (.ix (.v 0) (.k (.int 0))) (.ix (.v 0) (.k (.int 1)))),
  .aug (.v 0) (.k (.int 1)) (.k (.int 1)),
  .ite (.tcmp .GtE (.v 2) (.bin .Pow (.k (.int 10)) (.k (.int 18)))) [.sub (.v 0) (.k (.int 2)) (.v 2)] [.sub (.v 0) (.k (.int 3)) (.bin .Mod (.blt .int [.bin .Add (.bin .Add (.bin .Mult (.ix (.v 0) (.k (.int 3))) (.k (.int 48271))) (.bin .Mod (.blt .int [.v 2]) (.k (.int 2147483647)))) (.k (.int 7))]) (.k (.int 2147483647)))]] []
def nxB : CS := .ite (.tcmp .Gt (.ix (.v 0) (.k (.int 2))) (.k (.int 0))) [.set 3 (.bin .Mod (.blt .int [.ix (.v 0) (.k (.int 2))]) (.v 1)),
  .sub (.v 0) (.k (.int 2)) (.bin .FloorDiv (.ix (.v 0) (.k (.int 2))) (.v 1)),
  .rt (.v 3)] []
def nxC : CS := .sub (.v 0) (.k (.int 3)) (.bin .Mod (.blt .int [.bin .Add (.bin .Mult (.ix (.v 0) (.k (.int 3))) (.k (.int 69621))) (.k (.int 12345))]) (.k (.int 2147483647)))
def nxD : CS := .rt (.bin .Mod (.blt .int [.bin .FloorDiv (.ix (.v 0) (.k (.int 3))) (.k (.int 7))]) (.v 1))
theorem c48_eq : c48 = [nxA, nxB, nxC, nxD] := rfl
section
variable {C : CallS} {s q : Nat} {i a b lm : Int} {h : MH} {ns : List Int}
theorem eA (hs : h[s]? = some (.lst (stL q i a b))) (hq : h[q]? = some (.lst (ns.map .int))) (hne : s ≠ q) (h0 : 0 ≤ i) (h1 : 0 ≤ a) (h2 : 0 ≤ b) :
    ∃ x i' a' b', 0 ≤ i' ∧ 0 ≤ a' ∧ 0 ≤ b' ∧ evS gs C nxA [some (.ref s), some (.int lm), none, none] h = .nx [some (.ref s), some (.int lm), x, none] (h.set s (.lst (stL q i' a' b'))) := by
  have skip : evS gs C nxA [some (.ref s), some (.int lm), none, none] h = .nx [some (.ref s), some (.int lm), none, none] h → ∃ x i' a' b', 0 ≤ i' ∧ 0 ≤ a' ∧ 0 ≤ b' ∧ evS gs C nxA [some (.ref s), some (.int lm), none, none] h = .nx [some (.ref s), some (.int lm), x, none] (h.set s (.lst (stL q i' a' b'))) :=
    fun e => ⟨none, i, a, b, h0, h1, h2, by rw [e, set_same hs]⟩
  by_cases ha : a = 0
  · by_cases hi : i < (ns.length : Int)
    · obtain ⟨cell, hat⟩ : ∃ cell, atI (ns.map MV.int) i = some (.int cell) := by
        obtain ⟨k, rfl⟩ := Int.eq_ofNat_of_zero_le h0
        exact ⟨ns[k]'(by omega), Mn.atI_nat (by rw [List.getElem?_map, List.getElem?_eq_getElem (by omega)]; rfl)⟩
      have hs1 := get_set (p := .lst (stL q (i + 1) a b)) hs
      by_cases hg : cell < 10 ^ 18
      · refine ⟨some (.int cell), i + 1, a, (b * 48271 + cell % 2147483647 + 7) % 2147483647, by omega, h1, Int.emod_nonneg _ (by decide), ?_⟩
        have e1 : decide (cell < 10 ^ (18 : Int).toNat) = true := by simpa using hg
        unfold nxA
        simp only [evB, evS, evE, evT, evEs, evBo, evBoT, evIfC, evP, evI, bind_ok, bind_ex, bind_err, then_ok, then_ex, then_err, opt_some, opt_none, gd_f, gd_ok, t_non, t_bl, t_int, t_tup, b_ii, b_sub, c_eq_i, c_ne_i, c_eq_s, c_ne_s, c_eq_b, c_ne_b, c_lt_i, c_gt_i, c_le_i, c_ge_i, m_lt_i, m_le_i, m_le_s, c_is_n, c_isn_n, c_is_b, c_isn_b, is_n, is_i, is_s, is_b, is_t, is_r, c_in_c, c_nin_c, l_t, i_i, o_c, ix_t, ty_n, ty_b, ty_i, ty_s, ty_t, isinM, asgC, setAll, List.map_cons, List.map_nil, List.cons_append, List.nil_append, List.length_cons, List.length_nil, List.replicate_succ, List.replicate_zero, List.getElem?_cons_zero, List.getElem?_cons_succ, List.getElem?_nil, List.set_cons_zero, List.set_cons_succ, if_true, if_false, Bool.not_true, Bool.not_false, Bool.false_eq_true, Option.map_some, Option.map_none, List.any_cons, List.any_nil, Bool.or_false, Bool.false_or, Bool.or_true, Bool.true_or, Bool.and_true, Bool.true_and, Bool.false_and, Bool.and_false, beq_self_eq_true, String.reduceBEq, decide_true, decide_false, Nat.reduceAdd, Nat.reduceSub, Nat.zero_add, Int.natAbs_natCast, and_self, true_and, and_true, List.isEmpty_cons, List.isEmpty_nil, Option.isSome_some, Option.isSome_none, List.append_nil, ix_l hs, at0, at1, at2, ha, l_l hq, List.length_map, hi, ix_l hq, hat, gt_l hs, set_l hs sx1, ss1, b_pow (show (0 : Int) ≤ 18 ∧ (18 : Int) ≤ 1000000 ∧ (10 : Int).natAbs < 2 ^ 64 by decide), e1]
        rw [← ha]
        simp only [evB, evS, evE, evT, evEs, evBo, evBoT, evIfC, evP, evI, bind_ok, bind_ex, bind_err, then_ok, then_ex, then_err, opt_some, opt_none, gd_f, gd_ok, t_non, t_bl, t_int, t_tup, b_ii, b_sub, c_eq_i, c_ne_i, c_eq_s, c_ne_s, c_eq_b, c_ne_b, c_lt_i, c_gt_i, c_le_i, c_ge_i, m_lt_i, m_le_i, m_le_s, c_is_n, c_isn_n, c_is_b, c_isn_b, is_n, is_i, is_s, is_b, is_t, is_r, c_in_c, c_nin_c, l_t, i_i, o_c, ix_t, ty_n, ty_b, ty_i, ty_s, ty_t, isinM, asgC, setAll, List.map_cons, List.map_nil, List.cons_append, List.nil_append, List.length_cons, List.length_nil, List.replicate_succ, List.replicate_zero, List.getElem?_cons_zero, List.getElem?_cons_succ, List.getElem?_nil, List.set_cons_zero, List.set_cons_succ, if_true, if_false, Bool.not_true, Bool.not_false, Bool.false_eq_true, Option.map_some, Option.map_none, List.any_cons, List.any_nil, Bool.or_false, Bool.false_or, Bool.or_true, Bool.true_or, Bool.and_true, Bool.true_and, Bool.false_and, Bool.and_false, beq_self_eq_true, String.reduceBEq, decide_true, decide_false, Nat.reduceAdd, Nat.reduceSub, Nat.zero_add, Int.natAbs_natCast, and_self, true_and, and_true, List.isEmpty_cons, List.isEmpty_nil, Option.isSome_some, Option.isSome_none, List.append_nil, ix_l hs1, at3, b_mul (i := b) (j := 48271) (.inr (by decide)), b_mod (show (0 : Int) < 2147483647 by decide), set_l hs1 sx3, ss3, List.set_set]
      · refine ⟨some (.int cell), i + 1, cell, b, by omega, by omega, h2, ?_⟩
        have e1 : decide (cell < 10 ^ (18 : Int).toNat) = false := by simpa using hg
        unfold nxA
        simp only [evB, evS, evE, evT, evEs, evBo, evBoT, evIfC, evP, evI, bind_ok, bind_ex, bind_err, then_ok, then_ex, then_err, opt_some, opt_none, gd_f, gd_ok, t_non, t_bl, t_int, t_tup, b_ii, b_sub, c_eq_i, c_ne_i, c_eq_s, c_ne_s, c_eq_b, c_ne_b, c_lt_i, c_gt_i, c_le_i, c_ge_i, m_lt_i, m_le_i, m_le_s, c_is_n, c_isn_n, c_is_b, c_isn_b, is_n, is_i, is_s, is_b, is_t, is_r, c_in_c, c_nin_c, l_t, i_i, o_c, ix_t, ty_n, ty_b, ty_i, ty_s, ty_t, isinM, asgC, setAll, List.map_cons, List.map_nil, List.cons_append, List.nil_append, List.length_cons, List.length_nil, List.replicate_succ, List.replicate_zero, List.getElem?_cons_zero, List.getElem?_cons_succ, List.getElem?_nil, List.set_cons_zero, List.set_cons_succ, if_true, if_false, Bool.not_true, Bool.not_false, Bool.false_eq_true, Option.map_some, Option.map_none, List.any_cons, List.any_nil, Bool.or_false, Bool.false_or, Bool.or_true, Bool.true_or, Bool.and_true, Bool.true_and, Bool.false_and, Bool.and_false, beq_self_eq_true, String.reduceBEq, decide_true, decide_false, Nat.reduceAdd, Nat.reduceSub, Nat.zero_add, Int.natAbs_natCast, and_self, true_and, and_true, List.isEmpty_cons, List.isEmpty_nil, Option.isSome_some, Option.isSome_none, List.append_nil, ix_l hs, at0, at1, at2, ha, l_l hq, List.length_map, hi, ix_l hq, hat, gt_l hs, set_l hs sx1, ss1, b_pow (show (0 : Int) ≤ 18 ∧ (18 : Int) ≤ 1000000 ∧ (10 : Int).natAbs < 2 ^ 64 by decide), e1]
        rw [← ha]
        simp only [evB, evS, evE, evT, evEs, evBo, evBoT, evIfC, evP, evI, bind_ok, bind_ex, bind_err, then_ok, then_ex, then_err, opt_some, opt_none, gd_f, gd_ok, t_non, t_bl, t_int, t_tup, b_ii, b_sub, c_eq_i, c_ne_i, c_eq_s, c_ne_s, c_eq_b, c_ne_b, c_lt_i, c_gt_i, c_le_i, c_ge_i, m_lt_i, m_le_i, m_le_s, c_is_n, c_isn_n, c_is_b, c_isn_b, is_n, is_i, is_s, is_b, is_t, is_r, c_in_c, c_nin_c, l_t, i_i, o_c, ix_t, ty_n, ty_b, ty_i, ty_s, ty_t, isinM, asgC, setAll, List.map_cons, List.map_nil, List.cons_append, List.nil_append, List.length_cons, List.length_nil, List.replicate_succ, List.replicate_zero, List.getElem?_cons_zero, List.getElem?_cons_succ, List.getElem?_nil, List.set_cons_zero, List.set_cons_succ, if_true, if_false, Bool.not_true, Bool.not_false, Bool.false_eq_true, Option.map_some, Option.map_none, List.any_cons, List.any_nil, Bool.or_false, Bool.false_or, Bool.or_true, Bool.true_or, Bool.and_true, Bool.true_and, Bool.false_and, Bool.and_false, beq_self_eq_true, String.reduceBEq, decide_true, decide_false, Nat.reduceAdd, Nat.reduceSub, Nat.zero_add, Int.natAbs_natCast, and_self, true_and, and_true, List.isEmpty_cons, List.isEmpty_nil, Option.isSome_some, Option.isSome_none, List.append_nil, set_l hs1 sx2, ss2, List.set_set]
    · refine skip ?_
      unfold nxA
      simp only [evB, evS, evE, evT, evEs, evBo, evBoT, evIfC, evP, evI, bind_ok, bind_ex, bind_err, then_ok, then_ex, then_err, opt_some, opt_none, gd_f, gd_ok, t_non, t_bl, t_int, t_tup, b_ii, b_sub, c_eq_i, c_ne_i, c_eq_s, c_ne_s, c_eq_b, c_ne_b, c_lt_i, c_gt_i, c_le_i, c_ge_i, m_lt_i, m_le_i, m_le_s, c_is_n, c_isn_n, c_is_b, c_isn_b, is_n, is_i, is_s, is_b, is_t, is_r, c_in_c, c_nin_c, l_t, i_i, o_c, ix_t, ty_n, ty_b, ty_i, ty_s, ty_t, isinM, asgC, setAll, List.map_cons, List.map_nil, List.cons_append, List.nil_append, List.length_cons, List.length_nil, List.replicate_succ, List.replicate_zero, List.getElem?_cons_zero, List.getElem?_cons_succ, List.getElem?_nil, List.set_cons_zero, List.set_cons_succ, if_true, if_false, Bool.not_true, Bool.not_false, Bool.false_eq_true, Option.map_some, Option.map_none, List.any_cons, List.any_nil, Bool.or_false, Bool.false_or, Bool.or_true, Bool.true_or, Bool.and_true, Bool.true_and, Bool.false_and, Bool.and_false, beq_self_eq_true, String.reduceBEq, decide_true, decide_false, Nat.reduceAdd, Nat.reduceSub, Nat.zero_add, Int.natAbs_natCast, and_self, true_and, and_true, List.isEmpty_cons, List.isEmpty_nil, Option.isSome_some, Option.isSome_none, List.append_nil, ix_l hs, at0, at1, at2, ha, l_l hq, List.length_map, hi]
  · refine skip ?_
    unfold nxA
    simp only [evB, evS, evE, evT, evEs, evBo, evBoT, evIfC, evP, evI, bind_ok, bind_ex, bind_err, then_ok, then_ex, then_err, opt_some, opt_none, gd_f, gd_ok, t_non, t_bl, t_int, t_tup, b_ii, b_sub, c_eq_i, c_ne_i, c_eq_s, c_ne_s, c_eq_b, c_ne_b, c_lt_i, c_gt_i, c_le_i, c_ge_i, m_lt_i, m_le_i, m_le_s, c_is_n, c_isn_n, c_is_b, c_isn_b, is_n, is_i, is_s, is_b, is_t, is_r, c_in_c, c_nin_c, l_t, i_i, o_c, ix_t, ty_n, ty_b, ty_i, ty_s, ty_t, isinM, asgC, setAll, List.map_cons, List.map_nil, List.cons_append, List.nil_append, List.length_cons, List.length_nil, List.replicate_succ, List.replicate_zero, List.getElem?_cons_zero, List.getElem?_cons_succ, List.getElem?_nil, List.set_cons_zero, List.set_cons_succ, if_true, if_false, Bool.not_true, Bool.not_false, Bool.false_eq_true, Option.map_some, Option.map_none, List.any_cons, List.any_nil, Bool.or_false, Bool.false_or, Bool.or_true, Bool.true_or, Bool.and_true, Bool.true_and, Bool.false_and, Bool.and_false, beq_self_eq_true, String.reduceBEq, decide_true, decide_false, Nat.reduceAdd, Nat.reduceSub, Nat.zero_add, Int.natAbs_natCast, and_self, true_and, and_true, List.isEmpty_cons, List.isEmpty_nil, Option.isSome_some, Option.isSome_none, List.append_nil, ix_l hs, at2, ha]
theorem eB (hs : h[s]? = some (.lst (stL q i a b))) (h0 : 0 ≤ i) (h1 : 0 ≤ a) (h2 : 0 ≤ b) (hl : 0 < lm ∧ lm < 1073741824) (x : Option MV) :
    evS gs C nxB [some (.ref s), some (.int lm), x, none] h = .nx [some (.ref s), some (.int lm), x, none] h ∨ ∃ v a', 0 ≤ v ∧ v < lm ∧ 0 ≤ a' ∧ evS gs C nxB [some (.ref s), some (.int lm), x, none] h = .rt (.int v) (h.set s (.lst (stL q i a' b))) := by
  by_cases ha : 0 < a
  · refine .inr ⟨a % lm, a / lm, Int.emod_nonneg _ (by omega), Int.emod_lt_of_pos _ hl.1, Int.ediv_nonneg h1 (by omega), ?_⟩
    unfold nxB
    simp only [evB, evS, evE, evT, evEs, evBo, evBoT, evIfC, evP, evI, bind_ok, bind_ex, bind_err, then_ok, then_ex, then_err, opt_some, opt_none, gd_f, gd_ok, t_non, t_bl, t_int, t_tup, b_ii, b_sub, c_eq_i, c_ne_i, c_eq_s, c_ne_s, c_eq_b, c_ne_b, c_lt_i, c_gt_i, c_le_i, c_ge_i, m_lt_i, m_le_i, m_le_s, c_is_n, c_isn_n, c_is_b, c_isn_b, is_n, is_i, is_s, is_b, is_t, is_r, c_in_c, c_nin_c, l_t, i_i, o_c, ix_t, ty_n, ty_b, ty_i, ty_s, ty_t, isinM, asgC, setAll, List.map_cons, List.map_nil, List.cons_append, List.nil_append, List.length_cons, List.length_nil, List.replicate_succ, List.replicate_zero, List.getElem?_cons_zero, List.getElem?_cons_succ, List.getElem?_nil, List.set_cons_zero, List.set_cons_succ, if_true, if_false, Bool.not_true, Bool.not_false, Bool.false_eq_true, Option.map_some, Option.map_none, List.any_cons, List.any_nil, Bool.or_false, Bool.false_or, Bool.or_true, Bool.true_or, Bool.and_true, Bool.true_and, Bool.false_and, Bool.and_false, beq_self_eq_true, String.reduceBEq, decide_true, decide_false, Nat.reduceAdd, Nat.reduceSub, Nat.zero_add, Int.natAbs_natCast, and_self, true_and, and_true, List.isEmpty_cons, List.isEmpty_nil, Option.isSome_some, Option.isSome_none, List.append_nil, ix_l hs, at2, ha, b_mod hl.1, b_div hl, set_l hs sx2, ss2]
  · left
    unfold nxB
    simp only [evB, evS, evE, evT, evEs, evBo, evBoT, evIfC, evP, evI, bind_ok, bind_ex, bind_err, then_ok, then_ex, then_err, opt_some, opt_none, gd_f, gd_ok, t_non, t_bl, t_int, t_tup, b_ii, b_sub, c_eq_i, c_ne_i, c_eq_s, c_ne_s, c_eq_b, c_ne_b, c_lt_i, c_gt_i, c_le_i, c_ge_i, m_lt_i, m_le_i, m_le_s, c_is_n, c_isn_n, c_is_b, c_isn_b, is_n, is_i, is_s, is_b, is_t, is_r, c_in_c, c_nin_c, l_t, i_i, o_c, ix_t, ty_n, ty_b, ty_i, ty_s, ty_t, isinM, asgC, setAll, List.map_cons, List.map_nil, List.cons_append, List.nil_append, List.length_cons, List.length_nil, List.replicate_succ, List.replicate_zero, List.getElem?_cons_zero, List.getElem?_cons_succ, List.getElem?_nil, List.set_cons_zero, List.set_cons_succ, if_true, if_false, Bool.not_true, Bool.not_false, Bool.false_eq_true, Option.map_some, Option.map_none, List.any_cons, List.any_nil, Bool.or_false, Bool.false_or, Bool.or_true, Bool.true_or, Bool.and_true, Bool.true_and, Bool.false_and, Bool.and_false, beq_self_eq_true, String.reduceBEq, decide_true, decide_false, Nat.reduceAdd, Nat.reduceSub, Nat.zero_add, Int.natAbs_natCast, and_self, true_and, and_true, List.isEmpty_cons, List.isEmpty_nil, Option.isSome_some, Option.isSome_none, List.append_nil, ix_l hs, at2, ha]
theorem eCD (hs : h[s]? = some (.lst (stL q i a b))) (h0 : 0 ≤ i) (h1 : 0 ≤ a) (h2 : 0 ≤ b) (hl : 0 < lm ∧ lm < 1073741824) (x : Option MV) :
    ∃ v b', 0 ≤ v ∧ v < lm ∧ 0 ≤ b' ∧ evB gs C [nxC, nxD] [some (.ref s), some (.int lm), x, none] h = .rt (.int v) (h.set s (.lst (stL q i a b'))) := by
  refine ⟨(b * 69621 + 12345) % 2147483647 / 7 % lm, (b * 69621 + 12345) % 2147483647, Int.emod_nonneg _ (by omega), Int.emod_lt_of_pos _ hl.1, Int.emod_nonneg _ (by decide), ?_⟩
  have hs1 := get_set (p := .lst (stL q i a ((b * 69621 + 12345) % 2147483647))) hs
  unfold nxC nxD
  simp only [evB, evS, evE, evT, evEs, evBo, evBoT, evIfC, evP, evI, bind_ok, bind_ex, bind_err, then_ok, then_ex, then_err, opt_some, opt_none, gd_f, gd_ok, t_non, t_bl, t_int, t_tup, b_ii, b_sub, c_eq_i, c_ne_i, c_eq_s, c_ne_s, c_eq_b, c_ne_b, c_lt_i, c_gt_i, c_le_i, c_ge_i, m_lt_i, m_le_i, m_le_s, c_is_n, c_isn_n, c_is_b, c_isn_b, is_n, is_i, is_s, is_b, is_t, is_r, c_in_c, c_nin_c, l_t, i_i, o_c, ix_t, ty_n, ty_b, ty_i, ty_s, ty_t, isinM, asgC, setAll, List.map_cons, List.map_nil, List.cons_append, List.nil_append, List.length_cons, List.length_nil, List.replicate_succ, List.replicate_zero, List.getElem?_cons_zero, List.getElem?_cons_succ, List.getElem?_nil, List.set_cons_zero, List.set_cons_succ, if_true, if_false, Bool.not_true, Bool.not_false, Bool.false_eq_true, Option.map_some, Option.map_none, List.any_cons, List.any_nil, Bool.or_false, Bool.false_or, Bool.or_true, Bool.true_or, Bool.and_true, Bool.true_and, Bool.false_and, Bool.and_false, beq_self_eq_true, String.reduceBEq, decide_true, decide_false, Nat.reduceAdd, Nat.reduceSub, Nat.zero_add, Int.natAbs_natCast, and_self, true_and, and_true, List.isEmpty_cons, List.isEmpty_nil, Option.isSome_some, Option.isSome_none, List.append_nil, ix_l hs, at3, b_mul (i := b) (j := 69621) (.inr (by decide)), b_mod (show (0 : Int) < 2147483647 by decide), set_l hs sx3, ss3, ix_l hs1, b_div (show (0 : Int) < 7 ∧ (7 : Int) < 1073741824 by decide), b_mod hl.1]
/-- the state of the numbers stands at s, its script at q -/
def StOk (h : MH) (s q : Nat) : Prop := ∃ (i a b : Int) (ns : List Int), h[s]? = some (.lst (stL q i a b)) ∧ h[q]? = some (.lst (ns.map .int)) ∧ s ≠ q ∧ 0 ≤ i ∧ 0 ≤ a ∧ 0 ≤ b
theorem StOk.set {i' a' b' : Int} (hs : h[s]? = some (.lst (stL q i a b))) (hq : h[q]? = some (.lst (ns.map .int))) (hne : s ≠ q) (h0 : 0 ≤ i') (h1 : 0 ≤ a') (h2 : 0 ≤ b') : StOk (h.set s (.lst (stL q i' a' b'))) s q :=
  ⟨i', a', b', ns, get_set hs, by rw [get_set_ne hne]; exact hq, hne, h0, h1, h2⟩
theorem StOk.ne (x : StOk h s q) : s ≠ q := by
  obtain ⟨_, _, _, _, _, _, h3, _⟩ := x
  exact h3
theorem StOk.lt (x : StOk h s q) : s < h.length ∧ q < h.length := by
  obtain ⟨_, _, _, _, h1, h2, _⟩ := x
  exact ⟨(List.getElem?_eq_some_iff.mp h1).1, (List.getElem?_eq_some_iff.mp h2).1⟩
theorem StOk.same {h' : MH} (x : StOk h s q) (e1 : h'[s]? = h[s]?) (e2 : h'[q]? = h[q]?) : StOk h' s q := by
  obtain ⟨i, a, b, ns, h1, h2, h3⟩ := x
  exact ⟨i, a, b, ns, by rw [e1, h1], by rw [e2, h2], h3⟩
theorem StOk.app {g : MH} (x : StOk h s q) : StOk (h ++ g) s q := x.same (List.getElem?_append_left x.lt.1) (List.getElem?_append_left x.lt.2)
theorem StOk.put {D : Nat} {o : MO} (x : StOk h s q) (h1 : D ≠ s) (h2 : D ≠ q) : StOk (h.set D o) s q := x.same (get_set_ne h1) (get_set_ne h2)
theorem r48 (n : Nat) (hst : StOk h s q) (hl : 0 < lm ∧ lm < 1073741824) : ∃ v o, 0 ≤ v ∧ v < lm ∧ cc (n + 1) 48 [.ref s, .int lm] h = .ok (.int v) (h.set s o) ∧ StOk (h.set s o) s q := by
  obtain ⟨i, a, b, ns, hs, hq, hne, h0, h1, h2⟩ := hst
  obtain ⟨x, i', a', b', k0, k1, k2, e1⟩ := eA (C := cc n) (lm := lm) hs hq hne h0 h1 h2
  have hs1 := get_set (p := .lst (stL q i' a' b')) hs
  have hq1 : (h.set s (.lst (stL q i' a' b')))[q]? = some (.lst (ns.map .int)) := by rw [get_set_ne hne]; exact hq
  have e0 : ∀ r, evB gs (cc n) [nxA, nxB, nxC, nxD] [some (.ref s), some (.int lm), none, none] h = r → cc (n + 1) 48 [.ref s, .int lm] h = match r with
      | .nx _ h1 => .ok .non h1
      | .rt v h1 => .ok v h1
      | .ex e _ h1 => .ex e h1
      | _ => .err := by
    intro r hr
    rw [call_at (k := 4) (b := c48) rfl]
    unfold runC
    rw [c48_eq]
    simp only [List.map_cons, List.map_nil, List.cons_append, List.nil_append, List.length_cons, List.length_nil, Nat.reduceAdd, Nat.reduceSub, List.replicate_succ, List.replicate_zero, hr]
    all_goals (cases r <;> rfl)
  rcases eB (C := cc n) (lm := lm) hs1 k0 k1 k2 hl x with e2 | ⟨v, a2, v0, v1, j0, e2⟩
  · obtain ⟨v, b2, v0, v1, j0, e3⟩ := eCD (C := cc n) (lm := lm) hs1 k0 k1 k2 hl x
    refine ⟨v, .lst (stL q i' a' b2), v0, v1, ?_, StOk.set hs hq hne k0 k1 j0⟩
    rw [e0 (.rt (.int v) (h.set s (.lst (stL q i' a' b2)))) (by simp only [evB] at e3 ⊢; rw [e1]; dsimp only; rw [e2]; dsimp only; rw [e3, List.set_set])]
  · refine ⟨v, .lst (stL q i' a2 b'), v0, v1, ?_, StOk.set hs hq hne k0 j0 k2⟩
    rw [e0 (.rt (.int v) (h.set s (.lst (stL q i' a2 b')))) (by simp only [evB]; rw [e1]; dsimp only; rw [e2, List.set_set])]
end
end Pg
end

section
set_option linter.all false
set_option maxRecDepth 100000
set_option maxHeartbeats 1000000
namespace Pg
open PySem PySem.Spec L2 Mn
open TL (numL)
/-! ### _law_same -/
inductive All2 {α β : Type} (R : α → β → Prop) : List α → List β → Prop
  | nil : All2 R [] []
  | cons {a : α} {b : β} {as : List α} {bs : List β} : R a b → All2 R as bs → All2 R (a :: as) (b :: bs)
theorem All2.len {α β : Type} {R : α → β → Prop} : ∀ {a : List α} {b : List β}, All2 R a b → a.length = b.length
  | _, _, .nil => rfl
  | _, _, .cons _ t => by simp [t.len]
theorem All2.at {α β : Type} {R : α → β → Prop} : ∀ {a : List α} {b : List β}, All2 R a b → ∀ (k : Nat) (hk : k < a.length), ∃ x y, a[k]? = some x ∧ b[k]? = some y ∧ R x y
  | _, _, .cons h t, 0, _ => ⟨_, _, rfl, rfl, h⟩
  | _, _, .cons h t, k + 1, hk => by
    obtain ⟨x, y, h1, h2, h3⟩ := t.at k (by simpa using hk)
    exact ⟨x, y, by simpa using h1, by simpa using h2, h3⟩
  | _, _, .nil, _, hk => by simp at hk
theorem All2.same {α : Type} {R : α → α → Prop} : ∀ {a : List α}, (∀ x ∈ a, R x x) → All2 R a a
  | [], _ => .nil
  | x :: r, h => .cons (h x List.mem_cons_self) (All2.same fun y hy => h y (List.mem_cons_of_mem _ hy))
/-- the same data, at most n deep -/
def eqD : Nat → MH → MV → MV → Prop
  | 0, _, _, _ => False
  | n + 1, h, x, y => (x = .non ∧ y = .non) ∨ (∃ b, x = .bl b ∧ y = .bl b) ∨ (∃ i, x = .int i ∧ y = .int i) ∨ (∃ s, x = .str s ∧ y = .str s) ∨
    (∃ xs ys, x = .tup xs ∧ y = .tup ys ∧ xs.length < 1000 ∧ All2 (eqD n h) xs ys) ∨
    ∃ a b xs ys, x = .ref a ∧ y = .ref b ∧ h[a]? = some (.lst xs) ∧ h[b]? = some (.lst ys) ∧ xs.length < 1000 ∧ All2 (eqD n h) xs ys
theorem eqD.ext {h h' : MH} (e : Ext h h') : ∀ {n : Nat} {x y : MV}, eqD n h x y → eqD n h' x y
  | 0, x, y, q => q
  | n + 1, x, y, q => by
    have ih : ∀ {xs ys : List MV}, All2 (eqD n h) xs ys → All2 (eqD n h') xs ys := by
      intro xs ys a
      induction a with
      | nil => exact .nil
      | cons r _ t => exact .cons (eqD.ext e r) t
    rcases q with q | q | q | q | ⟨xs, ys, h1, h2, h3, h4⟩ | ⟨a, b, xs, ys, h1, h2, h3, h4, h5, h6⟩
    · exact .inl q
    · exact .inr (.inl q)
    · exact .inr (.inr (.inl q))
    · exact .inr (.inr (.inr (.inl q)))
    · exact .inr (.inr (.inr (.inr (.inl ⟨xs, ys, h1, h2, h3, ih h4⟩))))
    · exact .inr (.inr (.inr (.inr (.inr ⟨a, b, xs, ys, h1, h2, e.get h3, e.get h4, h5, ih h6⟩))))
theorem evI1 {C : CallS} {a : CE} {sm : MSt} {h h1 : MH} {K : Int} {it : Mn.It} (e : evE gs C a sm h = .ok (.int K) h1) (r : rangeM 0 K = some it) : evI gs C 1 [a] sm h = .ok it h1 := by
  simp only [evI, e, bind_ok, r, opt_some]
theorem evS_for {C : CallS} {tg : CT} {kind : Nat} {es : List CE} {b : List CS} {sm : MSt} {h h1 : MH} {it : Mn.It} (e : evI gs C kind es sm h = .ok it h1) : evS gs C (.for_ tg kind es b) sm h = forC tg it (fun sm h => evB gs C b sm h) (it.fuel h1) 0 sm h1 := by
  simp only [evS, e, then_ok]
theorem sub0 (k : Nat) : ((k : Int) - 0).toNat = k := by omega
theorem rng0 {k : Nat} (hk : k < 1000) : rangeM 0 (k : Int) = some (.seq (rangeL 0 k)) := by
  unfold rangeM
  rw [if_pos (by omega)]
  rw [sub0]
theorem fuel_rng {k : Nat} {h : MH} : (It.seq (rangeL 0 k)).fuel h = k + 1 := by
  show (rangeL 0 k).length + 1 = k + 1
  have : ∀ (lo : Int) (n : Nat), (rangeL lo n).length = n := by
    intro lo n
    induction n generalizing lo with
    | zero => rfl
    | succ n ih => simp [rangeL, ih]
  rw [this]
theorem at_rng {k j : Nat} {h : MH} : (It.seq (rangeL 0 k)).at j h = some (if j < k then some (.int j) else none) := by
  show some ((rangeL 0 k)[j]?) = _
  rw [rangeL_get]
  simp
def smB : List CS := [.ite (.tnot (.tv (.call 49 [.ix (.v 0) (.v 2), .ix (.v 1) (.v 2)] [] false))) [.rt (.k (.bl false))] []]
theorem same_body (C : CallS) (x y u v : MV) (h : MH) (j : Nat) (h1 : ixM h x (.int (j : Nat)) = some u) (h2 : ixM h y (.int (j : Nat)) = some v) (h3 : C 49 [u, v] h = .ok (.bl true) h) :
    evB gs C smB [some x, some y, some (.int j)] h = .nx [some x, some y, some (.int j)] h := by
  unfold smB
  simp only [evB, evS, evE, evT, evEs, evBo, evBoT, evIfC, evP, evI, bind_ok, bind_ex, bind_err, then_ok, then_ex, then_err, opt_some, opt_none, gd_f, gd_ok, t_non, t_bl, t_int, t_tup, b_ii, b_sub, c_eq_i, c_ne_i, c_eq_s, c_ne_s, c_eq_b, c_ne_b, c_lt_i, c_gt_i, c_le_i, c_ge_i, m_lt_i, m_le_i, m_le_s, c_is_n, c_isn_n, c_is_b, c_isn_b, is_n, is_i, is_s, is_b, is_t, is_r, c_in_c, c_nin_c, l_t, i_i, o_c, ix_t, ty_n, ty_b, ty_i, ty_s, ty_t, isinM, asgC, setAll, List.map_cons, List.map_nil, List.cons_append, List.nil_append, List.length_cons, List.length_nil, List.replicate_succ, List.replicate_zero, List.getElem?_cons_zero, List.getElem?_cons_succ, List.getElem?_nil, List.set_cons_zero, List.set_cons_succ, if_true, if_false, Bool.not_true, Bool.not_false, Bool.false_eq_true, Option.map_some, Option.map_none, List.any_cons, List.any_nil, Bool.or_false, Bool.false_or, Bool.or_true, Bool.true_or, Bool.and_true, Bool.true_and, Bool.false_and, Bool.and_false, beq_self_eq_true, String.reduceBEq, decide_true, decide_false, Nat.reduceAdd, Nat.reduceSub, Nat.zero_add, Int.natAbs_natCast, and_self, true_and, and_true, List.isEmpty_cons, List.isEmpty_nil, Option.isSome_some, Option.isSome_none, List.append_nil, h1, h2, h3]
theorem same_for (C : CallS) (x y : MV) (h : MH) (k : Nat) (call : ∀ j, j < k → evB gs C smB [some x, some y, some (.int j)] h = .nx [some x, some y, some (.int j)] h) :
    ∃ z, forC (.one 2) (.seq (rangeL 0 k)) (fun sm h => evB gs C smB sm h) (k + 1) 0 [some x, some y, none] h = .nx [some x, some y, z] h := by
  obtain ⟨sm', h', e, z, e1, e2⟩ := forC_run (tg := .one 2) (it := .seq (rangeL 0 k)) (b := fun sm h => evB gs C smB sm h) k (fun _ sm h' => ∃ z, sm = [some x, some y, z] ∧ h' = h) (m := k + 1) (sm := [some x, some y, none]) (h := h) (Nat.lt_succ_self k) ⟨none, rfl, rfl⟩ (by
    intro j sm h' hj ⟨z, e1, e2⟩
    subst e1 e2
    exact ⟨.int j, [some x, some y, some (.int j)], by rw [at_rng, if_pos hj], rfl, [some x, some y, some (.int j)], h', .inl (call j hj), some (.int j), rfl, rfl⟩) (by
    intro sm h' ⟨z, e1, e2⟩
    rw [at_rng, if_neg (Nat.lt_irrefl k)])
  exact ⟨z, by rw [e, e1, e2]⟩
theorem same_loop (C : CallS) (x y : MV) (h : MH) (k : Nat) (hk : k < 1000) (call : ∀ j, j < k → ∃ u v, ixM h x (.int (j : Nat)) = some u ∧ ixM h y (.int (j : Nat)) = some v ∧ C 49 [u, v] h = .ok (.bl true) h)
    (hl : bltM .len h [y] = .ok (.int k) h) : ∃ z, evS gs C (.for_ (.one 2) 1 [.blt .len [.v 1]] smB) [some x, some y, none] h = .nx [some x, some y, z] h := by
  obtain ⟨z, e⟩ := same_for C x y h k fun j hj => by
    obtain ⟨u, v, h1, h2, h3⟩ := call j hj
    exact same_body C x y u v h j h1 h2 h3
  refine ⟨z, ?_⟩
  rw [evS_for (evI1 (h1 := h) (K := (k : Int)) (it := .seq (rangeL 0 k)) (by simp only [evE, evEs, bind_ok, List.getElem?_cons_zero, List.getElem?_cons_succ, hl]) (rng0 hk)), fuel_rng]
  exact e
def c49a : List CS := [.ite (.tcmp .Is (.v 1) (.k .non)) [.rt (.cmp .Is (.v 0) (.k .non))] [],
  .ite (.tv (.isi (.v 1) ["bool"])) [.rt (.bo .And [.isi (.v 0) ["bool"], .cmp .Eq (.v 0) (.v 1)])] [],
  .ite (.tv (.isi (.v 1) ["int"])) [.rt (.bo .And [.isi (.v 0) ["int"], .not (.isi (.v 0) ["bool"]), .cmp .Eq (.v 0) (.v 1)])] [],
  .ite (.tv (.isi (.v 1) ["str"])) [.rt (.bo .And [.isi (.v 0) ["str"], .cmp .Eq (.v 0) (.v 1)])] [],
  .ite (.tbo .And [.tv (.isi (.v 1) ["tuple"]), .tnot (.tv (.isi (.v 0) ["tuple"]))]) [.rt (.k (.bl false))] [],
  .ite (.tbo .And [.tv (.isi (.v 1) ["list"]), .tnot (.tv (.isi (.v 0) ["list"]))]) [.rt (.k (.bl false))] [],
  .ite (.tcmp .NotEq (.blt .len [.v 0]) (.blt .len [.v 1])) [.rt (.k (.bl false))] [],
  .for_ (.one 2) 1 [.blt .len [.v 1]] smB,
  .rt (.k (.bl true))]
theorem c49_eq : c49 = c49a := rfl
theorem same_seq (C : CallS) (x y : MV) (h : MH) (K : Int) (t : String) (ht : t = "tuple" ∨ t = "list") (hx : tyM h x = some t) (hy : tyM h y = some t) (ny : isM y .non = some false) (lx : bltM .len h [x] = .ok (.int K) h) (ly : bltM .len h [y] = .ok (.int K) h) (z : Option MV)
    (e : evS gs C (.for_ (.one 2) 1 [.blt .len [.v 1]] smB) [some x, some y, none] h = .nx [some x, some y, z] h) : evB gs C c49a [some x, some y, none] h = .rt (.bl true) h := by
  unfold c49a
  generalize (CS.for_ (.one 2) 1 [.blt .len [.v 1]] smB) = Fr at e ⊢
  rcases ht with rfl | rfl
  · simp only [evB, evS, evE, evT, evEs, evBo, evBoT, evIfC, evP, bind_ok, bind_ex, bind_err, then_ok, then_ex, then_err, opt_some, opt_none, gd_f, gd_ok, t_non, t_bl, t_int, t_tup, b_ii, b_sub, c_eq_i, c_ne_i, c_eq_s, c_ne_s, c_eq_b, c_ne_b, c_lt_i, c_gt_i, c_le_i, c_ge_i, m_lt_i, m_le_i, m_le_s, c_is_n, c_isn_n, c_is_b, c_isn_b, is_n, is_i, is_s, is_b, is_t, is_r, c_in_c, c_nin_c, l_t, i_i, o_c, ix_t, ty_n, ty_b, ty_i, ty_s, ty_t, isinM, asgC, setAll, List.map_cons, List.map_nil, List.cons_append, List.nil_append, List.length_cons, List.length_nil, List.replicate_succ, List.replicate_zero, List.getElem?_cons_zero, List.getElem?_cons_succ, List.getElem?_nil, List.set_cons_zero, List.set_cons_succ, if_true, if_false, Bool.not_true, Bool.not_false, Bool.false_eq_true, Option.map_some, Option.map_none, List.any_cons, List.any_nil, Bool.or_false, Bool.false_or, Bool.or_true, Bool.true_or, Bool.and_true, Bool.true_and, Bool.false_and, Bool.and_false, beq_self_eq_true, String.reduceBEq, decide_true, decide_false, Nat.reduceAdd, Nat.reduceSub, Nat.zero_add, Int.natAbs_natCast, and_self, true_and, and_true, List.isEmpty_cons, List.isEmpty_nil, Option.isSome_some, Option.isSome_none, List.append_nil, e, hx, hy, ny, lx, ly]
  · simp only [evB, evS, evE, evT, evEs, evBo, evBoT, evIfC, evP, bind_ok, bind_ex, bind_err, then_ok, then_ex, then_err, opt_some, opt_none, gd_f, gd_ok, t_non, t_bl, t_int, t_tup, b_ii, b_sub, c_eq_i, c_ne_i, c_eq_s, c_ne_s, c_eq_b, c_ne_b, c_lt_i, c_gt_i, c_le_i, c_ge_i, m_lt_i, m_le_i, m_le_s, c_is_n, c_isn_n, c_is_b, c_isn_b, is_n, is_i, is_s, is_b, is_t, is_r, c_in_c, c_nin_c, l_t, i_i, o_c, ix_t, ty_n, ty_b, ty_i, ty_s, ty_t, isinM, asgC, setAll, List.map_cons, List.map_nil, List.cons_append, List.nil_append, List.length_cons, List.length_nil, List.replicate_succ, List.replicate_zero, List.getElem?_cons_zero, List.getElem?_cons_succ, List.getElem?_nil, List.set_cons_zero, List.set_cons_succ, if_true, if_false, Bool.not_true, Bool.not_false, Bool.false_eq_true, Option.map_some, Option.map_none, List.any_cons, List.any_nil, Bool.or_false, Bool.false_or, Bool.or_true, Bool.true_or, Bool.and_true, Bool.true_and, Bool.false_and, Bool.and_false, beq_self_eq_true, String.reduceBEq, decide_true, decide_false, Nat.reduceAdd, Nat.reduceSub, Nat.zero_add, Int.natAbs_natCast, and_self, true_and, and_true, List.isEmpty_cons, List.isEmpty_nil, Option.isSome_some, Option.isSome_none, List.append_nil, e, hx, hy, ny, lx, ly]
theorem same_sc (C : CallS) (x y : MV) (h : MH) (q : (x = .non ∧ y = .non) ∨ (∃ b, x = .bl b ∧ y = .bl b) ∨ (∃ i, x = .int i ∧ y = .int i) ∨ (∃ s, x = .str s ∧ y = .str s)) : evB gs C c49a [some x, some y, none] h = .rt (.bl true) h := by
  unfold c49a
  generalize (CS.for_ (.one 2) 1 [.blt .len [.v 1]] smB) = Fr
  rcases q with ⟨rfl, rfl⟩ | ⟨b, rfl, rfl⟩ | ⟨i, rfl, rfl⟩ | ⟨s, rfl, rfl⟩
  · simp only [evB, evS, evE, evT, evEs, evBo, evBoT, evIfC, evP, bind_ok, bind_ex, bind_err, then_ok, then_ex, then_err, opt_some, opt_none, gd_f, gd_ok, t_non, t_bl, t_int, t_tup, b_ii, b_sub, c_eq_i, c_ne_i, c_eq_s, c_ne_s, c_eq_b, c_ne_b, c_lt_i, c_gt_i, c_le_i, c_ge_i, m_lt_i, m_le_i, m_le_s, c_is_n, c_isn_n, c_is_b, c_isn_b, is_n, is_i, is_s, is_b, is_t, is_r, c_in_c, c_nin_c, l_t, i_i, o_c, ix_t, ty_n, ty_b, ty_i, ty_s, ty_t, isinM, asgC, setAll, List.map_cons, List.map_nil, List.cons_append, List.nil_append, List.length_cons, List.length_nil, List.replicate_succ, List.replicate_zero, List.getElem?_cons_zero, List.getElem?_cons_succ, List.getElem?_nil, List.set_cons_zero, List.set_cons_succ, if_true, if_false, Bool.not_true, Bool.not_false, Bool.false_eq_true, Option.map_some, Option.map_none, List.any_cons, List.any_nil, Bool.or_false, Bool.false_or, Bool.or_true, Bool.true_or, Bool.and_true, Bool.true_and, Bool.false_and, Bool.and_false, beq_self_eq_true, String.reduceBEq, decide_true, decide_false, Nat.reduceAdd, Nat.reduceSub, Nat.zero_add, Int.natAbs_natCast, and_self, true_and, and_true, List.isEmpty_cons, List.isEmpty_nil, Option.isSome_some, Option.isSome_none, List.append_nil]
  · simp only [evB, evS, evE, evT, evEs, evBo, evBoT, evIfC, evP, bind_ok, bind_ex, bind_err, then_ok, then_ex, then_err, opt_some, opt_none, gd_f, gd_ok, t_non, t_bl, t_int, t_tup, b_ii, b_sub, c_eq_i, c_ne_i, c_eq_s, c_ne_s, c_eq_b, c_ne_b, c_lt_i, c_gt_i, c_le_i, c_ge_i, m_lt_i, m_le_i, m_le_s, c_is_n, c_isn_n, c_is_b, c_isn_b, is_n, is_i, is_s, is_b, is_t, is_r, c_in_c, c_nin_c, l_t, i_i, o_c, ix_t, ty_n, ty_b, ty_i, ty_s, ty_t, isinM, asgC, setAll, List.map_cons, List.map_nil, List.cons_append, List.nil_append, List.length_cons, List.length_nil, List.replicate_succ, List.replicate_zero, List.getElem?_cons_zero, List.getElem?_cons_succ, List.getElem?_nil, List.set_cons_zero, List.set_cons_succ, if_true, if_false, Bool.not_true, Bool.not_false, Bool.false_eq_true, Option.map_some, Option.map_none, List.any_cons, List.any_nil, Bool.or_false, Bool.false_or, Bool.or_true, Bool.true_or, Bool.and_true, Bool.true_and, Bool.false_and, Bool.and_false, beq_self_eq_true, String.reduceBEq, decide_true, decide_false, Nat.reduceAdd, Nat.reduceSub, Nat.zero_add, Int.natAbs_natCast, and_self, true_and, and_true, List.isEmpty_cons, List.isEmpty_nil, Option.isSome_some, Option.isSome_none, List.append_nil]
  · simp only [evB, evS, evE, evT, evEs, evBo, evBoT, evIfC, evP, bind_ok, bind_ex, bind_err, then_ok, then_ex, then_err, opt_some, opt_none, gd_f, gd_ok, t_non, t_bl, t_int, t_tup, b_ii, b_sub, c_eq_i, c_ne_i, c_eq_s, c_ne_s, c_eq_b, c_ne_b, c_lt_i, c_gt_i, c_le_i, c_ge_i, m_lt_i, m_le_i, m_le_s, c_is_n, c_isn_n, c_is_b, c_isn_b, is_n, is_i, is_s, is_b, is_t, is_r, c_in_c, c_nin_c, l_t, i_i, o_c, ix_t, ty_n, ty_b, ty_i, ty_s, ty_t, isinM, asgC, setAll, List.map_cons, List.map_nil, List.cons_append, List.nil_append, List.length_cons, List.length_nil, List.replicate_succ, List.replicate_zero, List.getElem?_cons_zero, List.getElem?_cons_succ, List.getElem?_nil, List.set_cons_zero, List.set_cons_succ, if_true, if_false, Bool.not_true, Bool.not_false, Bool.false_eq_true, Option.map_some, Option.map_none, List.any_cons, List.any_nil, Bool.or_false, Bool.false_or, Bool.or_true, Bool.true_or, Bool.and_true, Bool.true_and, Bool.false_and, Bool.and_false, beq_self_eq_true, String.reduceBEq, decide_true, decide_false, Nat.reduceAdd, Nat.reduceSub, Nat.zero_add, Int.natAbs_natCast, and_self, true_and, and_true, List.isEmpty_cons, List.isEmpty_nil, Option.isSome_some, Option.isSome_none, List.append_nil]
  · simp only [evB, evS, evE, evT, evEs, evBo, evBoT, evIfC, evP, bind_ok, bind_ex, bind_err, then_ok, then_ex, then_err, opt_some, opt_none, gd_f, gd_ok, t_non, t_bl, t_int, t_tup, b_ii, b_sub, c_eq_i, c_ne_i, c_eq_s, c_ne_s, c_eq_b, c_ne_b, c_lt_i, c_gt_i, c_le_i, c_ge_i, m_lt_i, m_le_i, m_le_s, c_is_n, c_isn_n, c_is_b, c_isn_b, is_n, is_i, is_s, is_b, is_t, is_r, c_in_c, c_nin_c, l_t, i_i, o_c, ix_t, ty_n, ty_b, ty_i, ty_s, ty_t, isinM, asgC, setAll, List.map_cons, List.map_nil, List.cons_append, List.nil_append, List.length_cons, List.length_nil, List.replicate_succ, List.replicate_zero, List.getElem?_cons_zero, List.getElem?_cons_succ, List.getElem?_nil, List.set_cons_zero, List.set_cons_succ, if_true, if_false, Bool.not_true, Bool.not_false, Bool.false_eq_true, Option.map_some, Option.map_none, List.any_cons, List.any_nil, Bool.or_false, Bool.false_or, Bool.or_true, Bool.true_or, Bool.and_true, Bool.true_and, Bool.false_and, Bool.and_false, beq_self_eq_true, String.reduceBEq, decide_true, decide_false, Nat.reduceAdd, Nat.reduceSub, Nat.zero_add, Int.natAbs_natCast, and_self, true_and, and_true, List.isEmpty_cons, List.isEmpty_nil, Option.isSome_some, Option.isSome_none, List.append_nil]
theorem r49 (n : Nat) : ∀ (x y : MV) (h : MH) (m : Nat), eqD n h x y → cc (n + m) 49 [x, y] h = .ok (.bl true) h := by
  induction n with
  | zero => exact fun x y h m q => q.elim
  | succ n ih =>
    intro x y h m q
    rw [show n + 1 + m = (n + m) + 1 by omega, call_res (k := 3) (b := c49) rfl, c49_eq]
    have fin : evB gs (cc (n + m)) c49a [some x, some y, none] h = .rt (.bl true) h := by
      rcases q with q | q | q | q | ⟨xs, ys, rfl, rfl, h3, h4⟩ | ⟨a, b, xs, ys, rfl, rfl, h1, h2, h3, h4⟩
      · exact same_sc _ x y h (.inl q)
      · exact same_sc _ x y h (.inr (.inl q))
      · exact same_sc _ x y h (.inr (.inr (.inl q)))
      · exact same_sc _ x y h (.inr (.inr (.inr q)))
      · have hl := h4.len
        obtain ⟨z, e⟩ := same_loop (cc (n + m)) (.tup xs) (.tup ys) h xs.length h3 (by
          intro j hj
          obtain ⟨u, v, k1, k2, k3⟩ := h4.at j hj
          exact ⟨u, v, Mn.atI_nat k1, Mn.atI_nat k2, ih u v h m k3⟩) (by rw [l_t, hl])
        exact same_seq _ _ _ h xs.length "tuple" (.inl rfl) rfl rfl rfl l_t (by rw [l_t, hl]) z e
      · have hl := h4.len
        obtain ⟨z, e⟩ := same_loop (cc (n + m)) (.ref a) (.ref b) h xs.length h3 (by
          intro j hj
          obtain ⟨u, v, k1, k2, k3⟩ := h4.at j hj
          exact ⟨u, v, by rw [ix_l h1]; exact Mn.atI_nat k1, by rw [ix_l h2]; exact Mn.atI_nat k2, ih u v h m k3⟩) (by rw [l_l h2, hl])
        exact same_seq _ _ _ h xs.length "list" (.inr rfl) (ty_l h1) (ty_l h2) rfl (l_l h1) (by rw [l_l h2, hl]) z e
    simp only [List.map_cons, List.map_nil, List.length_cons, List.length_nil, Nat.reduceAdd, Nat.reduceSub, List.replicate_succ, List.replicate_zero, List.cons_append, List.nil_append, fin, resOf]
end Pg
end

section
set_option linter.all false
set_option maxRecDepth 100000
set_option maxHeartbeats 1000000
namespace Pg
open PySem PySem.Spec L2 Mn
open TL (numL)
/-! ### what stays -/
/-- all but s stays as it was -/
def Keep (s : Nat) (h h' : MH) : Prop := h.length ≤ h'.length ∧ ∀ a o, a ≠ s → h[a]? = some o → h'[a]? = some o
section
variable {s : Nat} {h h1 h2 : MH}
theorem Keep.refl : Keep s h h := ⟨Nat.le_refl _, fun _ _ _ e => e⟩
theorem Keep.trans (x : Keep s h h1) (y : Keep s h1 h2) : Keep s h h2 := ⟨Nat.le_trans x.1 y.1, fun a o n e => y.2 a o n (x.2 a o n e)⟩
theorem Keep.app {g : MH} (x : Keep s h h1) : Keep s h (h1 ++ g) := ⟨by simp; have := x.1; omega, fun a o n e => Ext.app.get (x.2 a o n e)⟩
theorem Keep.ext (x : Keep s h h1) (y : Ext h1 h2) : Keep s h h2 := by
  obtain ⟨g, rfl⟩ := y
  exact x.app
theorem Keep.setS {o : MO} (x : Keep s h h1) : Keep s h (h1.set s o) := ⟨by simp; exact x.1, fun a p n e => by rw [get_set_ne (Ne.symm n)]; exact x.2 a p n e⟩
theorem Keep.put {D : Nat} {o : MO} (x : Keep s h h1) (hD : h.length ≤ D) : Keep s h (h1.set D o) := ⟨by simp; exact x.1, fun a p n e => by
  have := (List.getElem?_eq_some_iff.mp e).1
  rw [get_set_ne (by omega)]
  exact x.2 a p n e⟩
theorem Keep.get (x : Keep s h h1) {a : Nat} {o : MO} (n : a ≠ s) (e : h[a]? = some o) : h1[a]? = some o := x.2 a o n e
end
theorem p_l {h : MH} {a k : Nat} {xs : List MV} {y : MV} (e : xs[k]? = some y) (hl : xs.length < 1000000) : mtL .pop h a xs [.int (k : Int)] = .ok y (h.set a (.lst (xs.eraseIdx k))) := by
  have hk := (List.getElem?_eq_some_iff.mp e).1
  have e2 : seqIndex? (k : Int) xs.length = some k := by
    have h1 : ¬ ((k : Int) < 0) := by omega
    have h2 : (k : Int) < (xs.length : Int) := by omega
    have h0 : (0 : Int) ≤ (k : Int) := by omega
    unfold seqIndex?
    simp only [h1, h2, h0, if_false, decide_true, Bool.and_true, if_true, Int.toNat_natCast]
  unfold mtL
  dsimp only
  rw [if_pos (by omega), e2]
  dsimp only
  rw [e]
theorem er_perm {α : Type} : ∀ {l : List α} {k : Nat} {y : α}, l[k]? = some y → (y :: l.eraseIdx k).Perm l
  | [], k, y, e => by simp at e
  | x :: l, 0, y, e => by
    simp at e
    subst e
    exact List.Perm.refl _
  | x :: l, k + 1, y, e => by
    rw [List.eraseIdx_cons_succ]
    exact (List.Perm.swap x y _).trans (List.Perm.cons x (er_perm (by simpa using e)))
theorem ap_l {h : MH} {a : Nat} {xs : List MV} {y : MV} (hl : xs.length < lim) : mtL .append h a xs [y] = .ok .non (h.set a (.lst (xs ++ [y]))) := if_pos hl
theorem li_l {h : MH} {a : Nat} {xs : List MV} (e : h[a]? = some (.lst xs)) : bltM .list h [.ref a] = .ok (.ref h.length) (h ++ [.lst xs]) := by
  simp only [bltM, seqOf, e]
  rfl
theorem evE_lc {C : CallS} {elt : CE} {tg : CT} {kind : Nat} {es ifs : List CE} {own : List Nat} {sm : MSt} {h h1 : MH} {it : Mn.It} (e : evI gs C kind es sm h = .ok it h1) :
    evE gs C (.lc elt tg kind es ifs own) sm h = lcC (fun sm h => evIfC gs C ifs sm h) (fun sm h => evE gs C elt sm h) tg (wipeM sm own) it h1.length (it.fuel h1) 0 (h1 ++ [.lst []]) := by
  simp only [evE, e, bind_ok]
/-! ### things in a drawn turn -/
def turnE : CE := .met (.v 2) [] none (some .pop) (some .pop) [.call 48 [.v 0, .blt .len [.v 2]] [] false]
theorem turn_step {C : CallS} {s d : Nat} {x z : MV} {H : MH} {rest : List MV} {k : Nat} {y : MV} {o : MO} (hd : H[d]? = some (.lst rest)) (hne : s ≠ d) (hc : C 48 [.ref s, .int rest.length] H = .ok (.int (k : Nat)) (H.set s o)) (hk : rest[k]? = some y) (hl : rest.length < 1000) :
    evE gs C turnE [some (.ref s), some x, some (.ref d), some z] H = .ok y ((H.set s o).set d (.lst (rest.eraseIdx k))) := by
  have hd2 : (H.set s o)[d]? = some (.lst rest) := by rw [get_set_ne hne]; exact hd
  unfold turnE
  simp only [evB, evS, evE, evT, evEs, evBo, evBoT, evIfC, evP, evI, bind_ok, bind_ex, bind_err, then_ok, then_ex, then_err, opt_some, opt_none, gd_f, gd_ok, t_non, t_bl, t_int, t_tup, b_ii, b_sub, c_eq_i, c_ne_i, c_eq_s, c_ne_s, c_eq_b, c_ne_b, c_lt_i, c_gt_i, c_le_i, c_ge_i, m_lt_i, m_le_i, m_le_s, c_is_n, c_isn_n, c_is_b, c_isn_b, is_n, is_i, is_s, is_b, is_t, is_r, c_in_c, c_nin_c, l_t, i_i, o_c, ix_t, ty_n, ty_b, ty_i, ty_s, ty_t, isinM, asgC, setAll, List.map_cons, List.map_nil, List.cons_append, List.nil_append, List.length_cons, List.length_nil, List.replicate_succ, List.replicate_zero, List.getElem?_cons_zero, List.getElem?_cons_succ, List.getElem?_nil, List.set_cons_zero, List.set_cons_succ, if_true, if_false, Bool.not_true, Bool.not_false, Bool.false_eq_true, Option.map_some, Option.map_none, List.any_cons, List.any_nil, Bool.or_false, Bool.false_or, Bool.or_true, Bool.true_or, Bool.and_true, Bool.true_and, Bool.false_and, Bool.and_false, beq_self_eq_true, String.reduceBEq, decide_true, decide_false, Nat.reduceAdd, Nat.reduceSub, Nat.zero_add, Int.natAbs_natCast, and_self, true_and, and_true, List.isEmpty_cons, List.isEmpty_nil, Option.isSome_some, Option.isSome_none, List.append_nil, hd, l_l hd, hc, hd2, p_l hk (by omega)]
theorem turned (n : Nat) {s q a : Nat} {h : MH} {xs : List MV} (hst : StOk h s q) (ha : h[a]? = some (.lst xs)) (hl : xs.length < 1000) :
    ∃ h' ys, cc (n + 2) 50 [.ref s, .ref a] h = .ok (.ref (h.length + 1)) h' ∧ Keep s h h' ∧ StOk h' s q ∧ h'[h.length + 1]? = some (.lst ys) ∧ ys.Perm xs := by
  have hs := hst.lt
  have ha' : (h ++ [.lst xs])[a]? = some (.lst xs) := Ext.app.get ha
  obtain ⟨acc, h', e, rest, i1, i2, i3, i4, i5, i6⟩ := lcC_inv (tg := .one 3) (it := .seq (rangeL 0 xs.length)) (et := fun sm h => evIfC gs (cc (n + 1)) [] sm h) (ee := fun sm h => evE gs (cc (n + 1)) turnE sm h) (sm := [some (.ref s), some (.ref a), some (.ref h.length), none]) (D := h.length + 1) xs.length
    (fun k acc H => ∃ rest, H[h.length]? = some (.lst rest) ∧ H[h.length + 1]? = some (.lst acc) ∧ (acc ++ rest).Perm xs ∧ rest.length + k = xs.length ∧ Keep s h H ∧ StOk H s q) (by
      rintro k acc H hk ⟨rest, j1, j2, j3, j4, j5, j6⟩
      refine ⟨.int k, _, by rw [at_rng, if_pos hk], rfl, true, H, rfl, fun _ => ?_, fun hb => by cases hb⟩
      obtain ⟨v, o, v0, v1, e1, e2⟩ := r48 n (lm := rest.length) j6 (by omega)
      obtain ⟨v, rfl⟩ := Int.eq_ofNat_of_zero_le v0
      have hv : rest[v]? = some (rest[v]'(by omega)) := List.getElem?_eq_getElem _
      have d1 : s ≠ h.length := by omega
      have d2 : h.length + 1 ≠ h.length := by omega
      refine ⟨_, _, turn_step (C := cc (n + 1)) j1 d1 e1 hv (by omega), ?_, ?_, rest.eraseIdx v, ?_, ?_, ?_, ?_, ?_, ?_⟩
      · rw [get_set_ne (by omega), get_set_ne (by omega)]
        exact j2
      · have := j3.length_eq
        rw [List.length_append] at this
        unfold lim
        omega
      · rw [get_set_ne (by omega), get_set (o := .lst rest) (by rw [get_set_ne d1]; exact j1)]
      · rw [get_set (o := .lst acc)]
        rw [get_set_ne (by omega), get_set_ne (by omega)]
        exact j2
      · refine List.Perm.trans ?_ j3
        rw [List.append_assoc]
        exact List.Perm.append_left acc (er_perm hv)
      · rw [List.length_eraseIdx_of_lt (by omega)]
        omega
      · exact ((j5.setS).put (Nat.le_refl _)).put (by omega)
      · exact (e2.put (by omega) (by omega)).put (by omega) (by omega)) (by
      rintro acc H ⟨rest, _⟩
      rw [at_rng, if_neg (Nat.lt_irrefl _)]) xs.length 0 (xs.length + 1) [] (h ++ [.lst xs] ++ [.lst []]) (by omega) (Nat.lt_succ_self _)
    ⟨xs, by simp, by simp, by simp, by omega, (Keep.refl.app).app, hst.app.app⟩
  refine ⟨h', acc, ?_, i5, i6, i2, ?_⟩
  · rw [call_res (k := 4) (b := c50) rfl]
    unfold c50
    have ev : evE gs (cc (n + 1)) (.lc turnE (.one 3) 1 [.blt .len [.v 1]] [] [3]) [some (.ref s), some (.ref a), some (.ref h.length), none] (h ++ [.lst xs]) = .ok (.ref (h.length + 1)) h' := by
      rw [evE_lc (evI1 (h1 := h ++ [.lst xs]) (K := (xs.length : Int)) (it := .seq (rangeL 0 xs.length)) (by simp only [evE, evEs, bind_ok, List.getElem?_cons_zero, List.getElem?_cons_succ, l_l ha']) (rng0 hl)), fuel_rng]
      have : (h ++ [MO.lst xs]).length = h.length + 1 := by simp
      rw [this]
      exact e
    unfold turnE at ev
    generalize (CE.lc (.met (.v 2) [] none (some .pop) (some .pop) [.call 48 [.v 0, .blt .len [.v 2]] [] false]) (.one 3) 1 [.blt .len [.v 1]] [] [3]) = N at ev ⊢
    simp only [evB, evS, evE, evT, evEs, evBo, evBoT, evIfC, evP, evI, bind_ok, bind_ex, bind_err, then_ok, then_ex, then_err, opt_some, opt_none, gd_f, gd_ok, t_non, t_bl, t_int, t_tup, b_ii, b_sub, c_eq_i, c_ne_i, c_eq_s, c_ne_s, c_eq_b, c_ne_b, c_lt_i, c_gt_i, c_le_i, c_ge_i, m_lt_i, m_le_i, m_le_s, c_is_n, c_isn_n, c_is_b, c_isn_b, is_n, is_i, is_s, is_b, is_t, is_r, c_in_c, c_nin_c, l_t, i_i, o_c, ix_t, ty_n, ty_b, ty_i, ty_s, ty_t, isinM, asgC, setAll, List.map_cons, List.map_nil, List.cons_append, List.nil_append, List.length_cons, List.length_nil, List.replicate_succ, List.replicate_zero, List.getElem?_cons_zero, List.getElem?_cons_succ, List.getElem?_nil, List.set_cons_zero, List.set_cons_succ, if_true, if_false, Bool.not_true, Bool.not_false, Bool.false_eq_true, Option.map_some, Option.map_none, List.any_cons, List.any_nil, Bool.or_false, Bool.false_or, Bool.or_true, Bool.true_or, Bool.and_true, Bool.true_and, Bool.false_and, Bool.and_false, beq_self_eq_true, String.reduceBEq, decide_true, decide_false, Nat.reduceAdd, Nat.reduceSub, Nat.zero_add, Int.natAbs_natCast, and_self, true_and, and_true, List.isEmpty_cons, List.isEmpty_nil, Option.isSome_some, Option.isSome_none, List.append_nil, li_l ha, ev, resOf]
  · have : rest = [] := List.eq_nil_of_length_eq_zero (by omega)
    rw [this, List.append_nil] at i3
    exact i3
end Pg
end

section
set_option linter.all false
set_option maxRecDepth 100000
set_option maxHeartbeats 1000000
namespace Pg
open PySem PySem.Spec L2 Mn
open TL (numL)
/-! ### names -/
def LET : List Nat := [97, 98, 99, 100, 101, 102, 103, 104, 105, 106, 107, 108, 109, 110, 111, 112, 113, 114, 115, 116, 117, 118, 119, 120, 121, 122]
def Low (t : List Nat) : Prop := t ≠ [] ∧ t.length ≤ 10 ∧ ∀ c ∈ t, 97 ≤ c ∧ c ≤ 122
theorem low_at {v : Nat} (h : v < 26) : atI LET (v : Int) = some (97 + v) := by
  refine Mn.atI_nat ?_
  unfold LET
  have : ∀ v : Fin 26, LET[v.val]? = some (97 + v.val) := by decide
  exact this ⟨v, h⟩
theorem strs_map : ∀ (ts : List (List Nat)), strsM (ts.map .str) = some ts
  | [] => rfl
  | t :: ts => by
    show (strsM (ts.map .str)).map _ = _
    rw [strs_map ts]
    rfl
theorem join_e : ∀ (cs : List Nat), joinM [] (cs.map fun c => [c]) = cs
  | [] => rfl
  | [c] => rfl
  | c :: d :: cs => by
    have ih := join_e (d :: cs)
    rw [List.map_cons] at ih
    rw [List.map_cons, List.map_cons]
    show [c] ++ [] ++ joinM [] ([d] :: cs.map fun c => [c]) = _
    rw [ih]
    rfl
def letE : CE := .ix (.v 2) (.call 48 [.v 0, .k (.int 26)] [] false)
def nameL : CE := .lc letE (.one 4) 1 [.bin .Add (.k (.int 1)) (.call 48 [.v 0, .k (.int 8)] [] false)] [] [4]
theorem let_lim : LET.length ≤ lim := by unfold lim LET; decide
theorem name_l (n : Nat) {s q : Nat} {h : MH} {x : MV} (hst : StOk h s q) :
    ∃ h' cs, cs ≠ [] ∧ cs.length ≤ 8 ∧ (∀ c ∈ cs, 97 ≤ c ∧ c ≤ 122) ∧ evE gs (cc (n + 1)) nameL [some (.ref s), some x, some (.str LET), none, none] h = .ok (.ref h.length) h' ∧ Keep s h h' ∧ StOk h' s q ∧ h'[h.length]? = some (.lst ((cs.map fun c => [c]).map .str)) := by
  have hs := hst.lt
  obtain ⟨v, o, v0, v1, e1, e2⟩ := r48 n (lm := 8) hst (by omega)
  obtain ⟨v, rfl⟩ := Int.eq_ofNat_of_zero_le v0
  have hlen : (h.set s o).length = h.length := by simp
  obtain ⟨acc, h', e, cs, i1, i2, i3, i4, i5, i6⟩ := lcC_inv (tg := .one 4) (it := .seq (rangeL 0 (1 + v))) (et := fun sm h => evIfC gs (cc (n + 1)) [] sm h) (ee := fun sm h => evE gs (cc (n + 1)) letE sm h) (sm := [some (.ref s), some x, some (.str LET), none, none]) (D := h.length) (1 + v)
    (fun k acc H => ∃ cs : List Nat, acc = (cs.map fun c => [c]).map .str ∧ H[h.length]? = some (.lst acc) ∧ cs.length = k ∧ (∀ c ∈ cs, 97 ≤ c ∧ c ≤ 122) ∧ Keep s h H ∧ StOk H s q) (by
      rintro k acc H hk ⟨cs, j1, j2, j3, j4, j5, j6⟩
      refine ⟨.int k, _, by rw [at_rng, if_pos hk], rfl, true, H, rfl, fun _ => ?_, fun hb => by cases hb⟩
      obtain ⟨u, o, u0, u1, e1, e2⟩ := r48 n (lm := 26) j6 (by omega)
      obtain ⟨u, rfl⟩ := Int.eq_ofNat_of_zero_le u0
      refine ⟨.str [97 + u], H.set s o, ?_, ?_, ?_, cs ++ [97 + u], ?_, ?_, ?_, ?_, ?_, ?_⟩
      · unfold letE
        simp only [evB, evS, evE, evT, evEs, evBo, evBoT, evIfC, evP, evI, bind_ok, bind_ex, bind_err, then_ok, then_ex, then_err, opt_some, opt_none, gd_f, gd_ok, t_non, t_bl, t_int, t_tup, b_ii, b_sub, c_eq_i, c_ne_i, c_eq_s, c_ne_s, c_eq_b, c_ne_b, c_lt_i, c_gt_i, c_le_i, c_ge_i, m_lt_i, m_le_i, m_le_s, c_is_n, c_isn_n, c_is_b, c_isn_b, is_n, is_i, is_s, is_b, is_t, is_r, c_in_c, c_nin_c, l_t, i_i, o_c, ix_t, ty_n, ty_b, ty_i, ty_s, ty_t, isinM, asgC, setAll, List.map_cons, List.map_nil, List.cons_append, List.nil_append, List.length_cons, List.length_nil, List.replicate_succ, List.replicate_zero, List.getElem?_cons_zero, List.getElem?_cons_succ, List.getElem?_nil, List.set_cons_zero, List.set_cons_succ, if_true, if_false, Bool.not_true, Bool.not_false, Bool.false_eq_true, Option.map_some, Option.map_none, List.any_cons, List.any_nil, Bool.or_false, Bool.false_or, Bool.or_true, Bool.true_or, Bool.and_true, Bool.true_and, Bool.false_and, Bool.and_false, beq_self_eq_true, String.reduceBEq, decide_true, decide_false, Nat.reduceAdd, Nat.reduceSub, Nat.zero_add, Int.natAbs_natCast, and_self, true_and, and_true, List.isEmpty_cons, List.isEmpty_nil, Option.isSome_some, Option.isSome_none, List.append_nil, e1, ix_s let_lim, low_at (show u < 26 by omega)]
      · rw [get_set_ne (by omega)]
        exact j2
      · rw [j1]
        simp
        unfold lim
        omega
      · rw [j1]
        simp
      · rw [get_set (o := .lst acc)]
        rw [get_set_ne (by omega)]
        exact j2
      · simp [j3]
      · intro c hc
        rcases List.mem_append.mp hc with hc | hc
        · exact j4 c hc
        · simp at hc
          omega
      · exact (j5.setS).put (Nat.le_refl _)
      · exact e2.put (by omega) (by omega)) (by
      rintro acc H ⟨cs, _⟩
      rw [at_rng, if_neg (Nat.lt_irrefl _)]) (1 + v) 0 (1 + v + 1) [] (h.set s o ++ [.lst []]) (by omega) (Nat.lt_succ_self _)
    ⟨[], rfl, by rw [← hlen]; simp, rfl, (fun c hc => by cases hc), (Keep.refl.setS).app, e2.app⟩
  refine ⟨h', cs, ?_, by omega, i4, ?_, i5, i6, by rw [i2, i1]⟩
  · intro z
    rw [z] at i3
    simp at i3
    omega
  · unfold nameL
    rw [evE_lc (evI1 (h1 := h.set s o) (K := ((1 + v : Nat) : Int)) (it := .seq (rangeL 0 (1 + v))) (by simp only [evB, evS, evE, evT, evEs, evBo, evBoT, evIfC, evP, bind_ok, bind_ex, bind_err, then_ok, then_ex, then_err, opt_some, opt_none, gd_f, gd_ok, t_non, t_bl, t_int, t_tup, b_ii, b_sub, c_eq_i, c_ne_i, c_eq_s, c_ne_s, c_eq_b, c_ne_b, c_lt_i, c_gt_i, c_le_i, c_ge_i, m_lt_i, m_le_i, m_le_s, c_is_n, c_isn_n, c_is_b, c_isn_b, is_n, is_i, is_s, is_b, is_t, is_r, c_in_c, c_nin_c, l_t, i_i, o_c, ix_t, ty_n, ty_b, ty_i, ty_s, ty_t, isinM, asgC, setAll, List.map_cons, List.map_nil, List.cons_append, List.nil_append, List.length_cons, List.length_nil, List.replicate_succ, List.replicate_zero, List.getElem?_cons_zero, List.getElem?_cons_succ, List.getElem?_nil, List.set_cons_zero, List.set_cons_succ, if_true, if_false, Bool.not_true, Bool.not_false, Bool.false_eq_true, Option.map_some, Option.map_none, List.any_cons, List.any_nil, Bool.or_false, Bool.false_or, Bool.or_true, Bool.true_or, Bool.and_true, Bool.true_and, Bool.false_and, Bool.and_false, beq_self_eq_true, String.reduceBEq, decide_true, decide_false, Nat.reduceAdd, Nat.reduceSub, Nat.zero_add, Int.natAbs_natCast, and_self, true_and, and_true, List.isEmpty_cons, List.isEmpty_nil, Option.isSome_some, Option.isSome_none, List.append_nil, e1]; congr 2) (rng0 (by omega))), fuel_rng, hlen]
    exact e
theorem j_l {h : MH} {a : Nat} {ts : List (List Nat)} (e : h[a]? = some (.lst (ts.map .str))) {t : List Nat} (hl : (ts.map List.length).sum + ts.length * t.length ≤ lim) : mtS .join h t [.ref a] = .ok (.str (joinM t ts)) h := by
  simp only [mtS, seqOf, e, Option.bind_some, strs_map]
  rw [if_pos hl]
theorem flat_strs (ts : List (List Nat)) : ((ts.map MV.str).all flatM) = true := by
  simp [flatM]
theorem c_in_l {h : MH} {a : Nat} {w : List Nat} {ts : List (List Nat)} (e : h[a]? = some (.lst (ts.map .str))) : cmpV .In h (.str w) (.ref a) = some (decide (w ∈ ts)) := by
  have h1 : isDict h (.ref a) = false := by simp only [isDict, e]
  simp only [cmpV, h1, Bool.false_eq_true, if_false, cmpM, inM, e, flat_strs, flatM, Bool.and_self, if_true]
  congr 1
  rw [Bool.eq_iff_iff]
  simp [eqFl]
theorem c_nin_l {h : MH} {a : Nat} {w : List Nat} {ts : List (List Nat)} (e : h[a]? = some (.lst (ts.map .str))) : cmpV .NotIn h (.str w) (.ref a) = some (!decide (w ∈ ts)) := by
  have h1 : isDict h (.ref a) = false := by simp only [isDict, e]
  have h2 := c_in_l (w := w) e
  simp only [cmpV, h1, Bool.false_eq_true, if_false, cmpM] at h2 ⊢
  rw [h2]
  rfl
theorem r51 (n : Nat) {s q t : Nat} {h : MH} {ts : List (List Nat)} (hst : StOk h s q) (ht : h[t]? = some (.lst (ts.map .str))) (hne : t ≠ s) (hl : ts.length < 26) :
    ∃ h' w, cc (n + 2) 51 [.ref s, .ref t] h = .ok (.str w) h' ∧ Low w ∧ Keep s h h' ∧ StOk h' s q := by
  obtain ⟨h', cs, c1, c2, c3, e, k1, k2, k3⟩ := name_l n (x := .ref t) hst
  have ht' := k1.get hne ht
  have hj : mtS .join h' [] [.ref h.length] = .ok (.str cs) h' := by
    rw [j_l k3 (by
      have : ∀ l : List Nat, ((l.map fun c => [c]).map List.length).sum = l.length := by
        intro l
        induction l with
        | nil => rfl
        | cons a l ih =>
          rw [List.map_cons, List.map_cons, List.sum_cons, ih, List.length_cons, List.length_cons, List.length_nil]
          omega
      rw [this]
      simp
      unfold lim
      omega), join_e]
  unfold nameL at e
  by_cases hin : cs ∈ ts
  · refine ⟨h', [113, 113, 113, 113, 113, 113, 113, 113] ++ [97] ++ [97 + ts.length], ?_, ⟨by simp, by simp, ?_⟩, k1, k2⟩
    · rw [call_res (k := 5) (b := c51) rfl]
      unfold c51
      unfold letE LET at e
      generalize (CE.lc (.ix (.v 2) (.call 48 [.v 0, .k (.int 26)] [] false)) (.one 4) 1 [.bin .Add (.k (.int 1)) (.call 48 [.v 0, .k (.int 8)] [] false)] [] [4]) = N at e ⊢
      have z : ((ts.length : Nat) : Int) / 26 = 0 := by omega
      have a0 : atI LET 0 = some 97 := rfl
      have a1 := low_at hl
      have ll := let_lim
      unfold LET at a0 a1 ll
      have z2 : ((ts.length : Nat) : Int) - 26 * 0 = ts.length := by omega
      have bd : binM .FloorDiv h' (.int ts.length) (.int 26) = .ok (.int 0) h' := by rw [b_div (by decide), z]
      have bm : binM .Mult h' (.int 26) (.int 0) = .ok (.int 0) h' := b_mul (.inl (by decide))
      have bs : binM .Sub h' (.int ts.length) (.int 0) = .ok (.int ts.length) h' := by rw [b_sub]; simp
      have b1 : ∀ {x y : List Nat}, x.length + y.length ≤ 100 → binM .Add h' (.str x) (.str y) = .ok (.str (x ++ y)) h' := fun hh => b_ss (by unfold lim; omega)
      simp only [evB, evS, evE, evT, evEs, evBo, evBoT, evIfC, evP, evI, bind_ok, bind_ex, bind_err, then_ok, then_ex, then_err, opt_some, opt_none, gd_f, gd_ok, t_non, t_bl, t_int, t_tup, b_ii, b_sub, c_eq_i, c_ne_i, c_eq_s, c_ne_s, c_eq_b, c_ne_b, c_lt_i, c_gt_i, c_le_i, c_ge_i, m_lt_i, m_le_i, m_le_s, c_is_n, c_isn_n, c_is_b, c_isn_b, is_n, is_i, is_s, is_b, is_t, is_r, c_in_c, c_nin_c, l_t, i_i, o_c, ix_t, ty_n, ty_b, ty_i, ty_s, ty_t, isinM, asgC, setAll, List.map_cons, List.map_nil, List.cons_append, List.nil_append, List.length_cons, List.length_nil, List.replicate_succ, List.replicate_zero, List.getElem?_cons_zero, List.getElem?_cons_succ, List.getElem?_nil, List.set_cons_zero, List.set_cons_succ, if_true, if_false, Bool.not_true, Bool.not_false, Bool.false_eq_true, Option.map_some, Option.map_none, List.any_cons, List.any_nil, Bool.or_false, Bool.false_or, Bool.or_true, Bool.true_or, Bool.and_true, Bool.true_and, Bool.false_and, Bool.and_false, beq_self_eq_true, String.reduceBEq, decide_true, decide_false, Nat.reduceAdd, Nat.reduceSub, Nat.zero_add, Int.natAbs_natCast, and_self, true_and, and_true, List.isEmpty_cons, List.isEmpty_nil, Option.isSome_some, Option.isSome_none, List.append_nil, e, hj, c_in_l ht', hin, l_l ht', List.length_map, bd, bm, bs, ix_s ll, a0, a1, b1 (x := [113, 113, 113, 113, 113, 113, 113, 113]) (y := [97]) (by decide), b1 (x := [113, 113, 113, 113, 113, 113, 113, 113, 97]) (y := [97 + ts.length]) (by simp), resOf]
    · intro c hc
      simp at hc
      omega
  · refine ⟨h', cs, ?_, ⟨c1, by omega, c3⟩, k1, k2⟩
    rw [call_res (k := 5) (b := c51) rfl]
    unfold c51
    unfold letE LET at e
    generalize (CE.lc (.ix (.v 2) (.call 48 [.v 0, .k (.int 26)] [] false)) (.one 4) 1 [.bin .Add (.k (.int 1)) (.call 48 [.v 0, .k (.int 8)] [] false)] [] [4]) = N at e ⊢
    simp only [evB, evS, evE, evT, evEs, evBo, evBoT, evIfC, evP, evI, bind_ok, bind_ex, bind_err, then_ok, then_ex, then_err, opt_some, opt_none, gd_f, gd_ok, t_non, t_bl, t_int, t_tup, b_ii, b_sub, c_eq_i, c_ne_i, c_eq_s, c_ne_s, c_eq_b, c_ne_b, c_lt_i, c_gt_i, c_le_i, c_ge_i, m_lt_i, m_le_i, m_le_s, c_is_n, c_isn_n, c_is_b, c_isn_b, is_n, is_i, is_s, is_b, is_t, is_r, c_in_c, c_nin_c, l_t, i_i, o_c, ix_t, ty_n, ty_b, ty_i, ty_s, ty_t, isinM, asgC, setAll, List.map_cons, List.map_nil, List.cons_append, List.nil_append, List.length_cons, List.length_nil, List.replicate_succ, List.replicate_zero, List.getElem?_cons_zero, List.getElem?_cons_succ, List.getElem?_nil, List.set_cons_zero, List.set_cons_succ, if_true, if_false, Bool.not_true, Bool.not_false, Bool.false_eq_true, Option.map_some, Option.map_none, List.any_cons, List.any_nil, Bool.or_false, Bool.false_or, Bool.or_true, Bool.true_or, Bool.and_true, Bool.true_and, Bool.false_and, Bool.and_false, beq_self_eq_true, String.reduceBEq, decide_true, decide_false, Nat.reduceAdd, Nat.reduceSub, Nat.zero_add, Int.natAbs_natCast, and_self, true_and, and_true, List.isEmpty_cons, List.isEmpty_nil, Option.isSome_some, Option.isSome_none, List.append_nil, e, hj, c_in_l ht', hin, resOf]
def appB : List CS := [.ex (.met (.v 2) [] none (some .append) none [.call 51 [.v 0, .v 2] [] false])]
theorem r52 (n : Nat) {s q : Nat} {h : MH} (hst : StOk h s q) :
    ∃ h' w0 w1, cc (n + 3) 52 [.ref s, .int 2] h = .ok (.ref h.length) h' ∧ h'[h.length]? = some (.lst [.str w0, .str w1]) ∧ Low w0 ∧ Low w1 ∧ Keep s h h' ∧ StOk h' s q := by
  have hs := hst.lt
  obtain ⟨sm', h', e, z, ts, i0, i1, i2, i3, i4, i5⟩ := forC_run (tg := .one 3) (it := .seq (rangeL 0 2)) (b := fun sm h => evB gs (cc (n + 2)) appB sm h) 2
    (fun k sm H => ∃ (z : Option MV) (ts : List (List Nat)), sm = [some (.ref s), some (.int 2), some (.ref h.length), z] ∧ H[h.length]? = some (.lst (ts.map .str)) ∧ ts.length = k ∧ (∀ t ∈ ts, Low t) ∧ Keep s h H ∧ StOk H s q) (m := 3) (sm := [some (.ref s), some (.int 2), some (.ref h.length), none]) (h := h ++ [.lst []]) (by omega)
    ⟨none, [], rfl, by simp, rfl, (fun t ht => by cases ht), Keep.refl.app, hst.app⟩ (by
      rintro k sm H hk ⟨z, ts, rfl, j1, j2, j3, j4, j5⟩
      obtain ⟨H', w, e1, e2, e3, e4⟩ := r51 n j5 j1 (by omega) (by omega)
      have j1' := e3.get (by omega) j1
      refine ⟨.int k, _, by rw [at_rng, if_pos hk], rfl, _, H'.set h.length (.lst (ts.map .str ++ [.str w])), .inl ?_, some (.int k), ts ++ [w], rfl, ?_, ?_, ?_, ?_, ?_⟩
      · unfold appB
        have := ap_l (h := H') (a := h.length) (xs := ts.map .str) (y := .str w) (by rw [List.length_map]; unfold lim; omega)
        simp only [evB, evS, evE, evT, evEs, evBo, evBoT, evIfC, evP, evI, bind_ok, bind_ex, bind_err, then_ok, then_ex, then_err, opt_some, opt_none, gd_f, gd_ok, t_non, t_bl, t_int, t_tup, b_ii, b_sub, c_eq_i, c_ne_i, c_eq_s, c_ne_s, c_eq_b, c_ne_b, c_lt_i, c_gt_i, c_le_i, c_ge_i, m_lt_i, m_le_i, m_le_s, c_is_n, c_isn_n, c_is_b, c_isn_b, is_n, is_i, is_s, is_b, is_t, is_r, c_in_c, c_nin_c, l_t, i_i, o_c, ix_t, ty_n, ty_b, ty_i, ty_s, ty_t, isinM, asgC, setAll, List.map_cons, List.map_nil, List.cons_append, List.nil_append, List.length_cons, List.length_nil, List.replicate_succ, List.replicate_zero, List.getElem?_cons_zero, List.getElem?_cons_succ, List.getElem?_nil, List.set_cons_zero, List.set_cons_succ, if_true, if_false, Bool.not_true, Bool.not_false, Bool.false_eq_true, Option.map_some, Option.map_none, List.any_cons, List.any_nil, Bool.or_false, Bool.false_or, Bool.or_true, Bool.true_or, Bool.and_true, Bool.true_and, Bool.false_and, Bool.and_false, beq_self_eq_true, String.reduceBEq, decide_true, decide_false, Nat.reduceAdd, Nat.reduceSub, Nat.zero_add, Int.natAbs_natCast, and_self, true_and, and_true, List.isEmpty_cons, List.isEmpty_nil, Option.isSome_some, Option.isSome_none, List.append_nil, j1, e1, j1', this]
      · rw [get_set j1']
        simp
      · simp [j2]
      · intro t ht
        rcases List.mem_append.mp ht with ht | ht
        · exact j3 t ht
        · simp at ht
          rw [ht]
          exact e2
      · exact (j4.trans e3).put (Nat.le_refl _)
      · exact e4.put (by omega) (by omega)) (by
      rintro sm H ⟨z, ts, _⟩
      rw [at_rng, if_neg (by omega)])
  match ts, i2 with
  | [w0, w1], _ =>
    refine ⟨h', w0, w1, ?_, i1, i3 _ (by simp), i3 _ (by simp), i4, i5⟩
    rw [call_res (k := 4) (b := c52) rfl]
    unfold c52
    have ev : evS gs (cc (n + 2)) (.for_ (.one 3) 1 [.v 1] appB) [some (.ref s), some (.int 2), some (.ref h.length), none] (h ++ [.lst []]) = .nx [some (.ref s), some (.int 2), some (.ref h.length), z] h' := by
      rw [evS_for (evI1 (h1 := h ++ [.lst []]) (K := ((2 : Nat) : Int)) (it := .seq (rangeL 0 2)) (by simp only [evB, evS, evE, evT, evEs, evBo, evBoT, evIfC, evP, bind_ok, bind_ex, bind_err, then_ok, then_ex, then_err, opt_some, opt_none, gd_f, gd_ok, t_non, t_bl, t_int, t_tup, b_ii, b_sub, c_eq_i, c_ne_i, c_eq_s, c_ne_s, c_eq_b, c_ne_b, c_lt_i, c_gt_i, c_le_i, c_ge_i, m_lt_i, m_le_i, m_le_s, c_is_n, c_isn_n, c_is_b, c_isn_b, is_n, is_i, is_s, is_b, is_t, is_r, c_in_c, c_nin_c, l_t, i_i, o_c, ix_t, ty_n, ty_b, ty_i, ty_s, ty_t, isinM, asgC, setAll, List.map_cons, List.map_nil, List.cons_append, List.nil_append, List.length_cons, List.length_nil, List.replicate_succ, List.replicate_zero, List.getElem?_cons_zero, List.getElem?_cons_succ, List.getElem?_nil, List.set_cons_zero, List.set_cons_succ, if_true, if_false, Bool.not_true, Bool.not_false, Bool.false_eq_true, Option.map_some, Option.map_none, List.any_cons, List.any_nil, Bool.or_false, Bool.false_or, Bool.or_true, Bool.true_or, Bool.and_true, Bool.true_and, Bool.false_and, Bool.and_false, beq_self_eq_true, String.reduceBEq, decide_true, decide_false, Nat.reduceAdd, Nat.reduceSub, Nat.zero_add, Int.natAbs_natCast, and_self, true_and, and_true, List.isEmpty_cons, List.isEmpty_nil, Option.isSome_some, Option.isSome_none, List.append_nil]; rfl) (rng0 (by omega))), fuel_rng, ← i0]
      exact e
    unfold appB at ev
    generalize (CS.for_ (.one 3) 1 [.v 1] [.ex (.met (.v 2) [] none (some .append) none [.call 51 [.v 0, .v 2] [] false])]) = N at ev ⊢
    have h0 : (0 : Nat) ≤ lim := Nat.zero_le _
    simp only [evB, evS, evE, evT, evEs, evBo, evBoT, evIfC, evP, evI, bind_ok, bind_ex, bind_err, then_ok, then_ex, then_err, opt_some, opt_none, gd_f, gd_ok, t_non, t_bl, t_int, t_tup, b_ii, b_sub, c_eq_i, c_ne_i, c_eq_s, c_ne_s, c_eq_b, c_ne_b, c_lt_i, c_gt_i, c_le_i, c_ge_i, m_lt_i, m_le_i, m_le_s, c_is_n, c_isn_n, c_is_b, c_isn_b, is_n, is_i, is_s, is_b, is_t, is_r, c_in_c, c_nin_c, l_t, i_i, o_c, ix_t, ty_n, ty_b, ty_i, ty_s, ty_t, isinM, asgC, setAll, List.map_cons, List.map_nil, List.cons_append, List.nil_append, List.length_cons, List.length_nil, List.replicate_succ, List.replicate_zero, List.getElem?_cons_zero, List.getElem?_cons_succ, List.getElem?_nil, List.set_cons_zero, List.set_cons_succ, if_true, if_false, Bool.not_true, Bool.not_false, Bool.false_eq_true, Option.map_some, Option.map_none, List.any_cons, List.any_nil, Bool.or_false, Bool.false_or, Bool.or_true, Bool.true_or, Bool.and_true, Bool.true_and, Bool.false_and, Bool.and_false, beq_self_eq_true, String.reduceBEq, decide_true, decide_false, Nat.reduceAdd, Nat.reduceSub, Nat.zero_add, Int.natAbs_natCast, and_self, true_and, and_true, List.isEmpty_cons, List.isEmpty_nil, Option.isSome_some, Option.isSome_none, List.append_nil, h0, lay, ev, resOf]
end Pg
end

section
set_option linter.all false
set_option maxRecDepth 100000
set_option maxHeartbeats 1000000
namespace Pg
open PySem PySem.Spec L2 Mn
open TL (numL)
/-! ### the disk -/
theorem own4 : gs.own 4 = true := by kernel_rfl
theorem att_ok {C : CallS} {e : CE} {k : Nat} {sm : MSt} {h h1 : MH} {v : MV} {a c : Nat} {fs : List (Nat × MV)} (he : evE gs C e sm h = .ok v h1) (hs : sm[0]? = some (some (.ref a))) (ha : h1[a]? = some (.ins c fs)) (hc : gs.own c = true) (hl : fs.length < 1000) :
    evS gs C (.att (.v 0) k e) sm h = .nx sm (h1.set a (.ins c (fput fs k v))) := by
  simp only [evS, evE, he, then_ok, hs, ha]
  rw [if_pos ⟨hl, hc⟩]
theorem attr_ok {C : CallS} {n i : Nat} {sm : MSt} {h : MH} {a c : Nat} {fs : List (Nat × MV)} {v : MV} (hs : sm[i]? = some (some (.ref a))) (ha : h[a]? = some (.ins c fs)) (hc : gs.own c = true) (hf : fget fs n = some v) : evE gs C (.attr (.v i) n) sm h = .ok v h := by
  simp only [evE, hs, bind_ok, ha, hc, if_true, hf, opt_some]
def dF (d a2 : Nat) (x : MV) (k : Int) : List (Nat × MV) := [(0, .ref (d + 1)), (1, .ref (d + 2)), (2, .ref a2), (3, x), (4, .ref (d + 5)), (5, .int k)]
theorem r14 (n : Nat) (h : MH) : cc (n + 1) 14 [.ref h.length] (h ++ [.ins 4 []]) = .ok .non (h ++ [.ins 4 (dF h.length (h.length + 3) (.ref (h.length + 4)) 0), .dK [], .dK [], .dK [], .dK [], .lst []]) := by
  rw [call_res (k := 1) (b := c14) rfl]
  unfold c14
  have h0 : (0 : Nat) ≤ lim := Nat.zero_le _
  have h1 : ∀ k : Nat, k < 10 → k < 1000 := fun k hk => by omega
  simp only [evB, evS, evE, evT, evEs, evBo, evBoT, evIfC, evP, evI, bind_ok, bind_ex, bind_err, then_ok, then_ex, then_err, opt_some, opt_none, gd_f, gd_ok, t_non, t_bl, t_int, t_tup, b_ii, b_sub, c_eq_i, c_ne_i, c_eq_s, c_ne_s, c_eq_b, c_ne_b, c_lt_i, c_gt_i, c_le_i, c_ge_i, m_lt_i, m_le_i, m_le_s, c_is_n, c_isn_n, c_is_b, c_isn_b, is_n, is_i, is_s, is_b, is_t, is_r, c_in_c, c_nin_c, l_t, i_i, o_c, ix_t, ty_n, ty_b, ty_i, ty_s, ty_t, isinM, asgC, setAll, List.map_cons, List.map_nil, List.cons_append, List.nil_append, List.length_cons, List.length_nil, List.replicate_succ, List.replicate_zero, List.getElem?_cons_zero, List.getElem?_cons_succ, List.getElem?_nil, List.set_cons_zero, List.set_cons_succ, if_true, if_false, Bool.not_true, Bool.not_false, Bool.false_eq_true, Option.map_some, Option.map_none, List.any_cons, List.any_nil, Bool.or_false, Bool.false_or, Bool.or_true, Bool.true_or, Bool.and_true, Bool.true_and, Bool.false_and, Bool.and_false, beq_self_eq_true, String.reduceBEq, decide_true, decide_false, Nat.reduceAdd, Nat.reduceSub, Nat.zero_add, Int.natAbs_natCast, and_self, true_and, and_true, List.isEmpty_cons, List.isEmpty_nil, Option.isSome_some, Option.isSome_none, List.append_nil, lay, h0, List.append_assoc, List.length_append, get_mid, set_mid, own4, fput, (by decide : (0 : Nat) < 1000), (by decide : (1 : Nat) < 1000), (by decide : (2 : Nat) < 1000), (by decide : (3 : Nat) < 1000), (by decide : (4 : Nat) < 1000), (by decide : (5 : Nat) < 1000), Nat.reduceEqDiff, resOf, dF]
theorem it_l {h : MH} {a : Nat} {xs : List MV} (e : h[a]? = some (.lst xs)) : itOf h (.ref a) = some (.lst a) := by simp only [itOf, e]
theorem lf_l {h : MH} {a : Nat} {xs : List MV} (e : h[a]? = some (.lst xs)) : (It.lst a).fuel h = xs.length + 1 := by simp only [It.fuel, e]
theorem la_l {h : MH} {a k : Nat} {xs : List MV} (e : h[a]? = some (.lst xs)) : (It.lst a).at k h = some xs[k]? := by simp only [It.at, e]
theorem set_d {h : MH} {a : Nat} {kvs : List (MK × MV)} {y v : MV} {q : MK} (e : h[a]? = some (.dK kvs)) (k : k1 y = some q) (hl : kvs.length < lim) : setM h (.ref a) y v = some (h.set a (.dK (dput kvs q v))) := by
  simp only [setM, e, k]
  rw [if_pos hl]
theorem di_d {h : MH} {a : Nat} {kvs : List (MK × MV)} (e : h[a]? = some (.dK kvs)) : bltM .dict h [.ref a] = .ok (.ref h.length) (h ++ [.dK kvs]) := by
  simp only [bltM, e]
  rfl
theorem r34 (n : Nat) {h : MH} {a l : Nat} {kvs : List (MK × MV)} {w : List Nat} {k : Int} (ha : h[a]? = some (.dK kvs)) (hl : h[l]? = some (.lst [.tup [.str [109, 97, 107, 101], .str w, .int k]])) (hk : kvs.length < lim) :
    cc (n + 1) 34 [.ref a, .ref l] h = .ok (.ref h.length) (h ++ [.dK (dput kvs (.s w) (.int k))]) := by
  rw [call_res (k := 6) (b := c34) rfl]
  unfold c34
  have hl2 : ∀ o : MO, (h ++ [o])[l]? = some (.lst [.tup [.str [109, 97, 107, 101], .str w, .int k]]) := fun o => Ext.app.get hl
  have hs := set_d (h := h ++ [.dK kvs]) (a := h.length) (kvs := kvs) (y := .str w) (v := .int k) (q := .s w) (by simp) rfl hk
  simp only [evB, evS, evE, evT, evEs, evBo, evBoT, evIfC, evP, evI, bind_ok, bind_ex, bind_err, then_ok, then_ex, then_err, opt_some, opt_none, gd_f, gd_ok, t_non, t_bl, t_int, t_tup, b_ii, b_sub, c_eq_i, c_ne_i, c_eq_s, c_ne_s, c_eq_b, c_ne_b, c_lt_i, c_gt_i, c_le_i, c_ge_i, m_lt_i, m_le_i, m_le_s, c_is_n, c_isn_n, c_is_b, c_isn_b, is_n, is_i, is_s, is_b, is_t, is_r, c_in_c, c_nin_c, l_t, i_i, o_c, ix_t, ty_n, ty_b, ty_i, ty_s, ty_t, isinM, asgC, setAll, List.map_cons, List.map_nil, List.cons_append, List.nil_append, List.length_cons, List.length_nil, List.replicate_succ, List.replicate_zero, List.getElem?_cons_zero, List.getElem?_cons_succ, List.getElem?_nil, List.set_cons_zero, List.set_cons_succ, if_true, if_false, Bool.not_true, Bool.not_false, Bool.false_eq_true, Option.map_some, Option.map_none, List.any_cons, List.any_nil, Bool.or_false, Bool.false_or, Bool.or_true, Bool.true_or, Bool.and_true, Bool.true_and, Bool.false_and, Bool.and_false, beq_self_eq_true, String.reduceBEq, decide_true, decide_false, Nat.reduceAdd, Nat.reduceSub, Nat.zero_add, Int.natAbs_natCast, and_self, true_and, and_true, List.isEmpty_cons, List.isEmpty_nil, Option.isSome_some, Option.isSome_none, List.append_nil, di_d ha, it_l (hl2 _), lf_l (hl2 _), forC, la_l (hl2 _), hs, set_mid, resOf]
/-- the disk at d has files of these names -/
def DiskOk (h : MH) (d : Nat) (ns : List (List Nat)) : Prop := ∃ (kv0 kv1 kv2 : List (MK × MV)) (L : List MV) (a2 : Nat) (x : MV) (k : Int), h[d]? = some (.ins 4 (dF d a2 x k)) ∧ h[d + 1]? = some (.dK kv0) ∧ h[d + 2]? = some (.dK kv1) ∧ h[d + 5]? = some (.lst L) ∧ h[a2]? = some (.dK kv2) ∧
  kv0.length ≤ ns.length ∧ kv1.length ≤ ns.length ∧ L.length ≤ ns.length ∧ keysS kv2 = some ns ∧ (a2 = d + 3 ∨ d + 5 < a2)
/-- all but the disk stays -/
def KeepD (d : Nat) (h h' : MH) : Prop := h.length ≤ h'.length ∧ ∀ a o, (a < d ∨ d + 5 < a) → h[a]? = some o → h'[a]? = some o
theorem KeepD.refl {d : Nat} {h : MH} : KeepD d h h := ⟨Nat.le_refl _, fun _ _ _ e => e⟩
theorem KeepD.trans {d : Nat} {h h1 h2 : MH} (x : KeepD d h h1) (y : KeepD d h1 h2) : KeepD d h h2 := ⟨Nat.le_trans x.1 y.1, fun a o n e => y.2 a o n (x.2 a o n e)⟩
theorem KeepD.app {d : Nat} {h h1 g : MH} (x : KeepD d h h1) : KeepD d h (h1 ++ g) := ⟨by simp; have := x.1; omega, fun a o n e => Ext.app.get (x.2 a o n e)⟩
theorem KeepD.set {d D : Nat} {h h1 : MH} {o : MO} (x : KeepD d h h1) (hD : d ≤ D ∧ D ≤ d + 5) : KeepD d h (h1.set D o) := ⟨by simp; exact x.1, fun a p n e => by
  rw [get_set_ne (by omega)]
  exact x.2 a p n e⟩
theorem keys_len : ∀ {kvs : List (MK × MV)} {ns : List (List Nat)}, keysS kvs = some ns → kvs.length = ns.length
  | [], ns, e => by cases e; rfl
  | (.s l, v) :: r, ns, e => by
    unfold keysS at e
    cases hr : keysS r with
    | none => rw [hr] at e; cases e
    | some t =>
      rw [hr] at e
      cases e
      simp [keys_len hr]
  | (.i n, v) :: r, ns, e => by cases e
theorem keys_any : ∀ {kvs : List (MK × MV)} {ns : List (List Nat)} (w : List Nat), keysS kvs = some ns → (kvs.any fun p => decide (p.1 = .s w)) = decide (w ∈ ns)
  | [], ns, w, e => by cases e; rfl
  | (.s l, v) :: r, ns, w, e => by
    unfold keysS at e
    cases hr : keysS r with
    | none => rw [hr] at e; cases e
    | some t =>
      rw [hr] at e
      cases e
      rw [List.any_cons, keys_any w hr]
      by_cases hw : w = l
      · subst hw; simp
      · have : ¬ (MK.s l = MK.s w) := fun z => hw (by cases z; rfl)
        simp [hw, this]
  | (.i n, v) :: r, ns, w, e => by cases e
theorem keys_get {kvs : List (MK × MV)} {ns : List (List Nat)} {w : List Nat} (e : keysS kvs = some ns) (hw : w ∉ ns) : dget kvs (.s w) = none := by
  have h1 := keys_any w e
  have h2 : (kvs.any fun p => decide (p.1 = .s w)) = false := by rw [h1]; simp [hw]
  unfold dget
  rw [List.find?_eq_none.mpr]
  · rfl
  · intro p hp
    rw [List.any_eq_false] at h2
    exact h2 p hp
theorem keys_app : ∀ {kvs : List (MK × MV)} {ns : List (List Nat)} {w : List Nat} {v : MV}, keysS kvs = some ns → keysS (kvs ++ [(.s w, v)]) = some (ns ++ [w])
  | [], ns, w, v, e => by cases e; rfl
  | (.s l, u) :: r, ns, w, v, e => by
    unfold keysS at e
    cases hr : keysS r with
    | none => rw [hr] at e; cases e
    | some t =>
      rw [hr] at e
      cases e
      show (keysS (r ++ [(.s w, v)])).map _ = _
      rw [keys_app hr]
      rfl
  | (.i n, u) :: r, ns, w, v, e => by cases e
theorem keys_put {kvs : List (MK × MV)} {ns : List (List Nat)} {w : List Nat} {v : MV} (e : keysS kvs = some ns) (hw : w ∉ ns) : keysS (dput kvs (.s w) v) = some (ns ++ [w]) := by
  have h1 := keys_any w e
  have h2 : (kvs.any fun p => decide (p.1 = .s w)) = false := by rw [h1]; simp [hw]
  unfold dput
  rw [h2]
  exact keys_app e
theorem put_len {kvs : List (MK × MV)} {q : MK} {v : MV} : (dput kvs q v).length ≤ kvs.length + 1 := by
  unfold dput
  split
  · simp
  · simp
theorem r22 (n : Nat) {h : MH} {d : Nat} {a2 : Nat} {x : MV} {k : Int} {L : List MV} {kv2 : List (MK × MV)} {w : List Nat} (h1 : h[d]? = some (.ins 4 (dF d a2 x k))) (h2 : h[d + 5]? = some (.lst L)) (h3 : h[a2]? = some (.dK kv2)) (ne : d + 5 ≠ a2) (hL : L.length < 1000) (hk : kv2.length < 1000) :
    cc (n + 2) 22 [.ref d, .tup [.str [109, 97, 107, 101], .str w, .int k]] h = .ok .non (((h.set (d + 5) (MO.lst (L ++ [MV.tup [.str [109, 97, 107, 101], .str w, .int k]]))) ++ [MO.lst [MV.tup [.str [109, 97, 107, 101], .str w, .int k]], MO.dK (dput kv2 (.s w) (.int k))]).set d (MO.ins 4 (dF d (h.length + 1) x k))) := by
  rw [call_res (k := 2) (b := c22) rfl]
  unfold c22
  generalize hz : MV.tup [.str [109, 97, 107, 101], .str w, .int k] = z
  generalize hh : h.set (d + 5) (.lst (L ++ [z])) = H
  have hlen : H.length = h.length := by rw [← hh]; simp
  have g1 : H[d]? = some (.ins 4 (dF d a2 x k)) := by rw [← hh, get_set_ne (by omega)]; exact h1
  have g3 : H[a2]? = some (.dK kv2) := by rw [← hh, get_set_ne ne]; exact h3
  have g4 : (H ++ [.lst [z]])[a2]? = some (.dK kv2) := Ext.app.get g3
  have g5 : (H ++ [.lst [z]])[H.length]? = some (.lst [.tup [.str [109, 97, 107, 101], .str w, .int k]]) := by rw [hz]; simp
  have g6 : (H ++ [MO.lst [z], MO.dK (dput kv2 (.s w) (.int k))])[d]? = some (.ins 4 (dF d a2 x k)) := Ext.app.get g1
  have ap : mtL .append h (d + 5) L [z] = .ok .non H := by rw [ap_l (by unfold lim; omega), hh]
  have f4 : fget (dF d a2 x k) 4 = some (.ref (d + 5)) := rfl
  have f2 : fget (dF d a2 x k) 2 = some (.ref a2) := rfl
  have p2 : fput (dF d a2 x k) 2 (.ref (H.length + 1)) = dF d (H.length + 1) x k := rfl
  have l2 : (dF d a2 x k).length < 1000 := by unfold dF; simp
  have c34 := r34 n (w := w) (k := k) g4 g5 (by unfold lim; omega)
  have hl1 : (1 : Nat) ≤ lim := by unfold lim; omega
  simp only [evB, evS, evE, evT, evEs, evBo, evBoT, evIfC, evP, evI, bind_ok, bind_ex, bind_err, then_ok, then_ex, then_err, opt_some, opt_none, gd_f, gd_ok, t_non, t_bl, t_int, t_tup, b_ii, b_sub, c_eq_i, c_ne_i, c_eq_s, c_ne_s, c_eq_b, c_ne_b, c_lt_i, c_gt_i, c_le_i, c_ge_i, m_lt_i, m_le_i, m_le_s, c_is_n, c_isn_n, c_is_b, c_isn_b, is_n, is_i, is_s, is_b, is_t, is_r, c_in_c, c_nin_c, l_t, i_i, o_c, ix_t, ty_n, ty_b, ty_i, ty_s, ty_t, isinM, asgC, setAll, List.map_cons, List.map_nil, List.cons_append, List.nil_append, List.length_cons, List.length_nil, List.replicate_succ, List.replicate_zero, List.getElem?_cons_zero, List.getElem?_cons_succ, List.getElem?_nil, List.set_cons_zero, List.set_cons_succ, if_true, if_false, Bool.not_true, Bool.not_false, Bool.false_eq_true, Option.map_some, Option.map_none, List.any_cons, List.any_nil, Bool.or_false, Bool.false_or, Bool.or_true, Bool.true_or, Bool.and_true, Bool.true_and, Bool.false_and, Bool.and_false, beq_self_eq_true, String.reduceBEq, decide_true, decide_false, Nat.reduceAdd, Nat.reduceSub, Nat.zero_add, Int.natAbs_natCast, and_self, true_and, and_true, List.isEmpty_cons, List.isEmpty_nil, Option.isSome_some, Option.isSome_none, List.append_nil, h1, own4, f4, h2, ap, g1, f2, hl1, lay, c34, List.append_assoc, List.length_append, g6, l2, p2, resOf]
  rw [hlen]
theorem r21 (n : Nat) {h : MH} {d : Nat} {ns : List (List Nat)} {w : List Nat} (hd : DiskOk h d ns) (hw : w ∉ ns) (hw0 : w ≠ []) (hn : ns.length < 100) : ∃ h', cc (n + 3) 21 [.ref d, .str w] h = .ok .non h' ∧ DiskOk h' d (ns ++ [w]) ∧ KeepD d h h' := by
  obtain ⟨kv0, kv1, kv2, L, a2, x, k, h1, h2, h3, h4, h5, l0, l1, lL, hk, ha⟩ := hd
  have lk := keys_len hk
  have hlen : d + 5 < h.length := (List.getElem?_eq_some_iff.mp h4).1
  have lm : ∀ {k : Nat}, k < 1000 → k < lim := fun hh => by unfold lim; omega
  have f0 : ∀ a2 k, fget (dF d a2 x k) 0 = some (.ref (d + 1)) := fun _ _ => rfl
  have f1 : ∀ a2 k, fget (dF d a2 x k) 1 = some (.ref (d + 2)) := fun _ _ => rfl
  have f2 : ∀ a2 k, fget (dF d a2 x k) 2 = some (.ref a2) := fun _ _ => rfl
  have f5 : ∀ a2 k, fget (dF d a2 x k) 5 = some (.int k) := fun _ _ => rfl
  have p5 : ∀ a2 k j, fput (dF d a2 x k) 5 (.int j) = dF d a2 x j := fun _ _ _ => rfl
  have lF : ∀ a2 k, (dF d a2 x k).length < 1000 := fun _ _ => by unfold dF; simp
  generalize hA : h.set (d + 1) (.dK (dput kv0 (.i k) (.str []))) = hA'
  have sA : setM h (.ref (d + 1)) (.int k) (.str []) = some hA' := by rw [set_d h2 rfl (lm (by omega)), hA]
  have A1 : hA'[d]? = some (.ins 4 (dF d a2 x k)) := by rw [← hA, get_set_ne (by omega)]; exact h1
  have A3 : hA'[d + 2]? = some (.dK kv1) := by rw [← hA, get_set_ne (by omega)]; exact h3
  generalize hB : hA'.set (d + 2) (.dK (dput kv1 (.i k) (.str []))) = hB'
  have sB : setM hA' (.ref (d + 2)) (.int k) (.str []) = some hB' := by rw [set_d A3 rfl (lm (by omega)), hB]
  have B1 : hB'[d]? = some (.ins 4 (dF d a2 x k)) := by rw [← hB, get_set_ne (by omega)]; exact A1
  have B2 : hB'[d + 1]? = some (.dK (dput kv0 (.i k) (.str []))) := by rw [← hB, get_set_ne (by omega), ← hA]; exact get_set h2
  have B3 : hB'[d + 2]? = some (.dK (dput kv1 (.i k) (.str []))) := by rw [← hB]; exact get_set A3
  have B4 : hB'[d + 5]? = some (.lst L) := by rw [← hB, get_set_ne (by omega), ← hA, get_set_ne (by omega)]; exact h4
  have B5 : hB'[a2]? = some (.dK kv2) := by rw [← hB, get_set_ne (by omega), ← hA, get_set_ne (by omega)]; exact h5
  have Bl : hB'.length = h.length := by rw [← hB, ← hA]; simp
  have KB : KeepD d h hB' := by rw [← hB, ← hA]; exact (KeepD.refl.set (by omega)).set (by omega)
  have e22 := r22 n (w := w) B1 B4 B5 (by omega) (by omega) (by omega)
  generalize hz : MV.tup [.str [109, 97, 107, 101], .str w, .int k] = z at e22
  generalize hC : ((hB'.set (d + 5) (MO.lst (L ++ [z]))) ++ [MO.lst [z], MO.dK (dput kv2 (.s w) (.int k))]).set d (.ins 4 (dF d (hB'.length + 1) x k)) = hC' at e22
  have KC : KeepD d h hC' := by rw [← hC]; exact ((KB.set (by omega)).app).set (by omega)
  have M1 : ((hB'.set (d + 5) (MO.lst (L ++ [z]))) ++ [MO.lst [z], MO.dK (dput kv2 (.s w) (.int k))])[d]? = some (.ins 4 (dF d a2 x k)) := Ext.app.get (by rw [get_set_ne (by omega)]; exact B1)
  have C1 : hC'[d]? = some (.ins 4 (dF d (hB'.length + 1) x k)) := by rw [← hC]; exact get_set M1
  have C2 : hC'[d + 1]? = some (.dK (dput kv0 (.i k) (.str []))) := by rw [← hC, get_set_ne (by omega)]; exact Ext.app.get (by rw [get_set_ne (by omega)]; exact B2)
  have C3 : hC'[d + 2]? = some (.dK (dput kv1 (.i k) (.str []))) := by rw [← hC, get_set_ne (by omega)]; exact Ext.app.get (by rw [get_set_ne (by omega)]; exact B3)
  have C4 : hC'[d + 5]? = some (.lst (L ++ [z])) := by rw [← hC, get_set_ne (by omega)]; exact Ext.app.get (get_set B4)
  have C5 : hC'[hB'.length + 1]? = some (.dK (dput kv2 (.s w) (.int k))) := by
    rw [← hC, get_set_ne (by omega)]
    have : (hB'.set (d + 5) (.lst (L ++ [z]))).length = hB'.length := by simp
    rw [List.getElem?_append_right (by omega), this]
    simp
  have nin : cmpV .In h (.str w) (.ref a2) = some false := by rw [c_in_d h5, keys_get hk hw]; rfl
  have D1 : ∀ o, (hC'.set d o)[d]? = some o := fun o => get_set C1
  refine ⟨hC'.set d (.ins 4 (dF d (hB'.length + 1) x (k + 1))), ?_, ⟨dput kv0 (.i k) (.str []), dput kv1 (.i k) (.str []), dput kv2 (.s w) (.int k), L ++ [z], hB'.length + 1, x, k + 1, D1 _, ?_, ?_, ?_, ?_, ?_, ?_, ?_, keys_put hk hw, ?_⟩, KC.set (by omega)⟩
  · rw [call_res (k := 2) (b := c21) rfl]
    unfold c21
    have l3 : (3 : Nat) ≤ lim := by unfold lim; omega
    simp only [evB, evS, evE, evT, evEs, evBo, evBoT, evIfC, evP, evI, bind_ok, bind_ex, bind_err, then_ok, then_ex, then_err, opt_some, opt_none, gd_f, gd_ok, t_non, t_bl, t_int, t_tup, b_ii, b_sub, c_eq_i, c_ne_i, c_eq_s, c_ne_s, c_eq_b, c_ne_b, c_lt_i, c_gt_i, c_le_i, c_ge_i, m_lt_i, m_le_i, m_le_s, c_is_n, c_isn_n, c_is_b, c_isn_b, is_n, is_i, is_s, is_b, is_t, is_r, c_in_c, c_nin_c, l_t, i_i, o_c, ix_t, ty_n, ty_b, ty_i, ty_s, ty_t, isinM, asgC, setAll, List.map_cons, List.map_nil, List.cons_append, List.nil_append, List.length_cons, List.length_nil, List.replicate_succ, List.replicate_zero, List.getElem?_cons_zero, List.getElem?_cons_succ, List.getElem?_nil, List.set_cons_zero, List.set_cons_succ, if_true, if_false, Bool.not_true, Bool.not_false, Bool.false_eq_true, Option.map_some, Option.map_none, List.any_cons, List.any_nil, Bool.or_false, Bool.false_or, Bool.or_true, Bool.true_or, Bool.and_true, Bool.true_and, Bool.false_and, Bool.and_false, beq_self_eq_true, String.reduceBEq, decide_true, decide_false, Nat.reduceAdd, Nat.reduceSub, Nat.zero_add, Int.natAbs_natCast, and_self, true_and, and_true, List.isEmpty_cons, List.isEmpty_nil, Option.isSome_some, Option.isSome_none, List.append_nil, h1, own4, f0, f1, f2, f5, hw0, nin, sA, A1, sB, B1, isinM, List.find?_cons, l3, hz, e22, C1, lF, p5, resOf]
  · rw [get_set_ne (by omega)]; exact C2
  · rw [get_set_ne (by omega)]; exact C3
  · rw [get_set_ne (by omega)]; exact C4
  · rw [get_set_ne (by omega)]; exact C5
  · have := put_len (kvs := kv0) (q := .i k) (v := .str []); simp; omega
  · have := put_len (kvs := kv1) (q := .i k) (v := .str []); simp; omega
  · simp; omega
  · omega
theorem r15 (n : Nat) {h : MH} {d : Nat} {ns : List (List Nat)} (hd : DiskOk h d ns) (hn : ns.length < 64) : cc (n + 1) 15 [.ref d] h = .ok (.ref h.length) (h ++ [.lst ((sortS ns).map .str)]) := by
  obtain ⟨kv0, kv1, kv2, L, a2, x, k, h1, h2, h3, h4, h5, l0, l1, lL, hk, ha⟩ := hd
  have e : bltM .sorted h [.ref a2] = .ok (.ref h.length) (h ++ [.lst ((sortS ns).map .str)]) := by
    simp only [bltM, h5, hk]
    rw [if_pos hn]
    rfl
  have f2 : ∀ a2 k, fget (dF d a2 x k) 2 = some (.ref a2) := fun _ _ => rfl
  rw [call_res (k := 1) (b := c15) rfl]
  unfold c15
  simp only [evB, evS, evE, evT, evEs, evBo, evBoT, evIfC, evP, evI, bind_ok, bind_ex, bind_err, then_ok, then_ex, then_err, opt_some, opt_none, gd_f, gd_ok, t_non, t_bl, t_int, t_tup, b_ii, b_sub, c_eq_i, c_ne_i, c_eq_s, c_ne_s, c_eq_b, c_ne_b, c_lt_i, c_gt_i, c_le_i, c_ge_i, m_lt_i, m_le_i, m_le_s, c_is_n, c_isn_n, c_is_b, c_isn_b, is_n, is_i, is_s, is_b, is_t, is_r, c_in_c, c_nin_c, l_t, i_i, o_c, ix_t, ty_n, ty_b, ty_i, ty_s, ty_t, isinM, asgC, setAll, List.map_cons, List.map_nil, List.cons_append, List.nil_append, List.length_cons, List.length_nil, List.replicate_succ, List.replicate_zero, List.getElem?_cons_zero, List.getElem?_cons_succ, List.getElem?_nil, List.set_cons_zero, List.set_cons_succ, if_true, if_false, Bool.not_true, Bool.not_false, Bool.false_eq_true, Option.map_some, Option.map_none, List.any_cons, List.any_nil, Bool.or_false, Bool.false_or, Bool.or_true, Bool.true_or, Bool.and_true, Bool.true_and, Bool.false_and, Bool.and_false, beq_self_eq_true, String.reduceBEq, decide_true, decide_false, Nat.reduceAdd, Nat.reduceSub, Nat.zero_add, Int.natAbs_natCast, and_self, true_and, and_true, List.isEmpty_cons, List.isEmpty_nil, Option.isSome_some, Option.isSome_none, List.append_nil, h1, own4, f2, e, resOf]
end Pg
end

section
set_option linter.all false
set_option maxRecDepth 100000
set_option maxHeartbeats 1000000
namespace Pg
open PySem PySem.Spec L2 Mn
open TL (numL)
/-! ### comprehensions over lists -/
section
variable {C : CallS} {elt : CE} {tg : CT} {kind : Nat} {es ifs : List CE} {own : List Nat} {sm : MSt} {h h1 : MH} {it : Mn.It} {xs : List MV}
theorem lc_fm (f : MV → Option MV) (e : evI gs C kind es sm h = .ok it h1) (hm : it.fuel h1 = xs.length + 1) (hl : xs.length < 1000) (hit : ∀ H k, Ext h1 H → it.at k H = some xs[k]?)
    (step : ∀ x ∈ xs, ∃ sm2, asgC tg x (wipeM sm own) = some sm2 ∧ ∀ H, Ext h1 H → ∃ b g2, evIfC gs C ifs sm2 H = .ok b (H ++ g2) ∧ (b = true → ∃ y g3, evE gs C elt sm2 (H ++ g2) = .ok y (H ++ g2 ++ g3) ∧ f x = some y) ∧ (b = false → f x = none)) :
    ∃ g, evE gs C (.lc elt tg kind es ifs own) sm h = .ok (.ref h1.length) (h1 ++ .lst (xs.filterMap f) :: g) := by
  rw [evE_lc e, hm]
  exact lcC_fm xs f (Nat.lt_succ_self _) (by unfold lim; omega) hit step
theorem lc_map (F : MV → MV) (e : evI gs C kind es sm h = .ok it h1) (hm : it.fuel h1 = xs.length + 1) (hl : xs.length < 1000) (hit : ∀ H k, Ext h1 H → it.at k H = some xs[k]?)
    (step : ∀ x ∈ xs, ∃ sm2, asgC tg x (wipeM sm own) = some sm2 ∧ ∀ H, Ext h1 H → ∃ g, evE gs C elt sm2 H = .ok (F x) (H ++ g)) :
    ∃ g, evE gs C (.lc elt tg kind es [] own) sm h = .ok (.ref h1.length) (h1 ++ .lst (xs.map F) :: g) := by
  have : xs.map F = xs.filterMap fun x => some (F x) := by simp
  rw [this]
  refine lc_fm (fun x => some (F x)) e hm hl hit fun x hx => ?_
  obtain ⟨sm2, h2, h3⟩ := step x hx
  refine ⟨sm2, h2, fun H hH => ⟨true, [], ?_, fun _ => ?_, fun hb => by cases hb⟩⟩
  · simp only [evIfC, List.append_nil]
  · obtain ⟨g, h4⟩ := h3 H hH
    exact ⟨F x, g, by simpa using h4, rfl⟩
end
theorem evI_l {C : CallS} {a : CE} {sm : MSt} {h h1 : MH} {r : Nat} {xs : List MV} (e : evE gs C a sm h = .ok (.ref r) h1) (hr : h1[r]? = some (.lst xs)) : evI gs C 0 [a] sm h = .ok (.lst r) h1 := by
  simp only [evI, e, bind_ok, it_l hr, opt_some]
theorem fm_if {α β : Type} (l : List α) (p : α → Bool) (F : α → MV) (G : α → β) (f : MV → Option β) (hf : ∀ x ∈ l, f (F x) = if p x then some (G x) else none) : (l.map F).filterMap f = (l.filter p).map G := by
  induction l with
  | nil => rfl
  | cons a l ih =>
    have ih := ih fun x hx => hf x (List.mem_cons_of_mem _ hx)
    have h1 := hf a List.mem_cons_self
    rw [List.map_cons, List.filterMap_cons, h1]
    cases hp : p a with
    | true => simp only [if_true, List.filter_cons, hp, List.map_cons, ih]
    | false => simp only [Bool.false_eq_true, if_false, List.filter_cons, hp, ih]
/-! ### what a disk tells -/
def sv (x : MV) : List Nat := match x with
  | .str s => s
  | _ => []
theorem mem_sortS {s : List Nat} : ∀ {l : List (List Nat)}, s ∈ sortS l ↔ s ∈ l := by
  have ins : ∀ (x : List Nat) (l : List (List Nat)), s ∈ insS x l ↔ s = x ∨ s ∈ l := by
    intro x l
    induction l with
    | nil => simp [insS]
    | cons y r ih =>
      unfold insS
      split
      · simp
      · rw [List.mem_cons, ih, List.mem_cons]
        constructor
        · rintro (h | h | h)
          · exact .inr (.inl h)
          · exact .inl h
          · exact .inr (.inr h)
        · rintro (h | h | h)
          · exact .inr (.inl h)
          · exact .inl h
          · exact .inr (.inr h)
  intro l
  induction l with
  | nil => exact Iff.rfl
  | cons x r ih =>
    show s ∈ insS x (sortS r) ↔ _
    rw [ins, ih, List.mem_cons]
theorem len_sortS (l : List (List Nat)) : (sortS l).length = l.length := by
  have ins : ∀ (x : List Nat) (l : List (List Nat)), (insS x l).length = l.length + 1 := by
    intro x l
    induction l with
    | nil => rfl
    | cons y r ih =>
      unfold insS
      split
      · rfl
      · simp [ih]
  induction l with
  | nil => rfl
  | cons x r ih =>
    show (insS x (sortS r)).length = _
    rw [ins, ih, List.length_cons]
section
variable {h : MH} {d : Nat} {ns : List (List Nat)}
def namesE : CE := .met (.v 0) [⟨4, 15, [], false, true⟩] none none none []
theorem names_ev (n : Nat) {r : MSt} (hd : DiskOk h d ns) (hn : ns.length < 64) : evE gs (cc (n + 1)) namesE (some (.ref d) :: r) h = .ok (.ref h.length) (h ++ [.lst ((sortS ns).map .str)]) := by
  have e := r15 n hd hn
  obtain ⟨kv0, kv1, kv2, L, a2, x, k, h1, h2⟩ := hd
  unfold namesE
  simp only [evB, evS, evE, evT, evEs, evBo, evBoT, evIfC, evP, evI, bind_ok, bind_ex, bind_err, then_ok, then_ex, then_err, opt_some, opt_none, gd_f, gd_ok, t_non, t_bl, t_int, t_tup, b_ii, b_sub, c_eq_i, c_ne_i, c_eq_s, c_ne_s, c_eq_b, c_ne_b, c_lt_i, c_gt_i, c_le_i, c_ge_i, m_lt_i, m_le_i, m_le_s, c_is_n, c_isn_n, c_is_b, c_isn_b, is_n, is_i, is_s, is_b, is_t, is_r, c_in_c, c_nin_c, l_t, i_i, o_c, ix_t, ty_n, ty_b, ty_i, ty_s, ty_t, isinM, asgC, setAll, List.map_cons, List.map_nil, List.cons_append, List.nil_append, List.length_cons, List.length_nil, List.replicate_succ, List.replicate_zero, List.getElem?_cons_zero, List.getElem?_cons_succ, List.getElem?_nil, List.set_cons_zero, List.set_cons_succ, if_true, if_false, Bool.not_true, Bool.not_false, Bool.false_eq_true, Option.map_some, Option.map_none, List.any_cons, List.any_nil, Bool.or_false, Bool.false_or, Bool.or_true, Bool.true_or, Bool.and_true, Bool.true_and, Bool.false_and, Bool.and_false, beq_self_eq_true, String.reduceBEq, decide_true, decide_false, Nat.reduceAdd, Nat.reduceSub, Nat.zero_add, Int.natAbs_natCast, and_self, true_and, and_true, List.isEmpty_cons, List.isEmpty_nil, Option.isSome_some, Option.isSome_none, List.append_nil, h1, List.find?_cons, e]
/-- a listing of those names that a test takes -/
theorem listing (n : Nat) (tst : Nat) (elt : CE) (p : List Nat → Bool) (G : List Nat → MV) (hd : DiskOk h d ns) (hn : ns.length < 64) (hs : ∀ s ∈ ns, s.length < lim)
    (ht : ∀ s H, s.length < lim → ∃ g, cc (n + 1) tst [.str s] H = .ok (.bl (p s)) (H ++ g))
    (he : ∀ s H, s.length < lim → p s = true → ∃ g, evE gs (cc (n + 1)) elt [some (.ref d), some (.str s)] H = .ok (G s) (H ++ g)) :
    ∃ a g, evE gs (cc (n + 1)) (.lc elt (.one 1) 0 [namesE] [.tv (.call tst [.v 1] [] false)] [1]) [some (.ref d), none] h = .ok (.ref a) (h ++ g) ∧ h.length ≤ a ∧ (h ++ g)[a]? = some (.lst (((sortS ns).filter p).map G)) := by
  have en := names_ev n (r := [none]) hd hn
  have hat : (h ++ [MO.lst ((sortS ns).map .str)])[h.length]? = some (.lst ((sortS ns).map .str)) := by simp
  obtain ⟨g, e⟩ := lc_fm (C := cc (n + 1)) (elt := elt) (tg := .one 1) (ifs := [.tv (.call tst [.v 1] [] false)]) (own := [1]) (xs := (sortS ns).map .str) (fun x => if p (sv x) then some (G (sv x)) else none) (evI_l en hat) (lf_l hat) (by simp [len_sortS]; omega) (fun H k x => at_lst hat H k x) (by
    intro x hx
    obtain ⟨s, hs', rfl⟩ := List.mem_map.mp hx
    have hsl := hs s (mem_sortS.mp hs')
    refine ⟨[some (.ref d), some (.str s)], rfl, fun H _ => ?_⟩
    obtain ⟨g2, e2⟩ := ht s H hsl
    refine ⟨p s, g2, ?_, fun hb => ?_, fun hb => ?_⟩
    · cases hp : p s with
      | true => rw [hp] at e2; simp only [evB, evS, evE, evT, evEs, evBo, evBoT, evIfC, evP, evI, bind_ok, bind_ex, bind_err, then_ok, then_ex, then_err, opt_some, opt_none, gd_f, gd_ok, t_non, t_bl, t_int, t_tup, b_ii, b_sub, c_eq_i, c_ne_i, c_eq_s, c_ne_s, c_eq_b, c_ne_b, c_lt_i, c_gt_i, c_le_i, c_ge_i, m_lt_i, m_le_i, m_le_s, c_is_n, c_isn_n, c_is_b, c_isn_b, is_n, is_i, is_s, is_b, is_t, is_r, c_in_c, c_nin_c, l_t, i_i, o_c, ix_t, ty_n, ty_b, ty_i, ty_s, ty_t, isinM, asgC, setAll, List.map_cons, List.map_nil, List.cons_append, List.nil_append, List.length_cons, List.length_nil, List.replicate_succ, List.replicate_zero, List.getElem?_cons_zero, List.getElem?_cons_succ, List.getElem?_nil, List.set_cons_zero, List.set_cons_succ, if_true, if_false, Bool.not_true, Bool.not_false, Bool.false_eq_true, Option.map_some, Option.map_none, List.any_cons, List.any_nil, Bool.or_false, Bool.false_or, Bool.or_true, Bool.true_or, Bool.and_true, Bool.true_and, Bool.false_and, Bool.and_false, beq_self_eq_true, String.reduceBEq, decide_true, decide_false, Nat.reduceAdd, Nat.reduceSub, Nat.zero_add, Int.natAbs_natCast, and_self, true_and, and_true, List.isEmpty_cons, List.isEmpty_nil, Option.isSome_some, Option.isSome_none, List.append_nil, e2]
      | false => rw [hp] at e2; simp only [evB, evS, evE, evT, evEs, evBo, evBoT, evIfC, evP, evI, bind_ok, bind_ex, bind_err, then_ok, then_ex, then_err, opt_some, opt_none, gd_f, gd_ok, t_non, t_bl, t_int, t_tup, b_ii, b_sub, c_eq_i, c_ne_i, c_eq_s, c_ne_s, c_eq_b, c_ne_b, c_lt_i, c_gt_i, c_le_i, c_ge_i, m_lt_i, m_le_i, m_le_s, c_is_n, c_isn_n, c_is_b, c_isn_b, is_n, is_i, is_s, is_b, is_t, is_r, c_in_c, c_nin_c, l_t, i_i, o_c, ix_t, ty_n, ty_b, ty_i, ty_s, ty_t, isinM, asgC, setAll, List.map_cons, List.map_nil, List.cons_append, List.nil_append, List.length_cons, List.length_nil, List.replicate_succ, List.replicate_zero, List.getElem?_cons_zero, List.getElem?_cons_succ, List.getElem?_nil, List.set_cons_zero, List.set_cons_succ, if_true, if_false, Bool.not_true, Bool.not_false, Bool.false_eq_true, Option.map_some, Option.map_none, List.any_cons, List.any_nil, Bool.or_false, Bool.false_or, Bool.or_true, Bool.true_or, Bool.and_true, Bool.true_and, Bool.false_and, Bool.and_false, beq_self_eq_true, String.reduceBEq, decide_true, decide_false, Nat.reduceAdd, Nat.reduceSub, Nat.zero_add, Int.natAbs_natCast, and_self, true_and, and_true, List.isEmpty_cons, List.isEmpty_nil, Option.isSome_some, Option.isSome_none, List.append_nil, e2]
    · obtain ⟨g3, e3⟩ := he s (H ++ g2) hsl hb
      exact ⟨G s, g3, e3, if_pos hb⟩
    · show (if p s = true then _ else _) = _
      rw [hb]
      rfl)
  rw [fm_if (sortS ns) p .str G _ (fun s _ => rfl)] at e
  refine ⟨(h ++ [MO.lst ((sortS ns).map .str)]).length, [MO.lst ((sortS ns).map .str)] ++ MO.lst (((sortS ns).filter p).map G) :: g, by rw [e]; simp, by simp, ?_⟩
  rw [← List.append_assoc]
  exact get_mid
end
section
variable {h : MH} {d : Nat} {ns : List (List Nat)}
theorem r39 (n : Nat) (hd : DiskOk h d ns) (hn : ns.length < 64) (hs : ∀ s ∈ ns, s.length < lim) : ∃ a g, cc (n + 2) 39 [.ref d] h = .ok (.ref a) (h ++ g) ∧ h.length ≤ a ∧ (h ++ g)[a]? = some (.lst (((sortS ns).filter (isP [108, 111, 103, 46])).map .str)) := by
  obtain ⟨a, g, e, e2⟩ := listing n 40 (.v 1) (isP [108, 111, 103, 46]) .str hd hn hs (fun s H hl => r40 n s H hl) (fun s H _ _ => ⟨[], by simp only [evE, List.getElem?_cons_succ, List.getElem?_cons_zero, List.append_nil]⟩)
  refine ⟨a, g, ?_, e2⟩
  rw [call_res (k := 2) (b := c39) rfl]
  unfold c39
  unfold namesE at e
  simp only [List.map_cons, List.map_nil, List.length_cons, List.length_nil, Nat.reduceAdd, Nat.reduceSub, List.replicate_succ, List.replicate_zero, List.cons_append, List.nil_append, evB, evS, e, then_ok, resOf]
theorem r44 (n : Nat) (hd : DiskOk h d ns) (hn : ns.length < 64) (hs : ∀ s ∈ ns, s.length < lim) : ∃ a g, cc (n + 2) 44 [.ref d] h = .ok (.ref a) (h ++ g) ∧ h.length ≤ a ∧ (h ++ g)[a]? = some (.lst (((sortS ns).filter (isP [115, 110, 97, 112, 46])).map .str)) := by
  obtain ⟨a, g, e, e2⟩ := listing n 43 (.v 1) (isP [115, 110, 97, 112, 46]) .str hd hn hs (fun s H hl => r43 n s H hl) (fun s H _ _ => ⟨[], by simp only [evE, List.getElem?_cons_succ, List.getElem?_cons_zero, List.append_nil]⟩)
  refine ⟨a, g, ?_, e2⟩
  rw [call_res (k := 2) (b := c44) rfl]
  unfold c44
  unfold namesE at e
  simp only [List.map_cons, List.map_nil, List.length_cons, List.length_nil, Nat.reduceAdd, Nat.reduceSub, List.replicate_succ, List.replicate_zero, List.cons_append, List.nil_append, evB, evS, e, then_ok, resOf]
theorem r46 (n : Nat) (hd : DiskOk h d ns) (hn : ns.length < 64) (hs : ∀ s ∈ ns, s.length < lim) : ∃ a g, cc (n + 2) 46 [.ref d] h = .ok (.ref a) (h ++ g) ∧ h.length ≤ a ∧ (h ++ g)[a]? = some (.lst (((sortS ns).filter (isP [112, 97, 103, 101, 115, 46])).map fun s => .int (NumText.digitsVal (s.drop 6) : Nat))) := by
  obtain ⟨a, g, e, e2⟩ := listing n 11 (.blt .int [.sl (.v 1) (some (.k (.int 6))) none]) (isP [112, 97, 103, 101, 115, 46]) (fun s => .int (NumText.digitsVal (s.drop 6) : Nat)) hd hn hs (fun s H hl => r11 n s H hl) (fun s H hl hp => ⟨[], by
    obtain ⟨d1, d2⟩ := isP_drop hp
    have d1 : (s.drop 6).length = 6 := d1
    have d2 : NumText.AllDigits (s.drop 6) := d2
    have hi := int_digits d2 (by intro z; rw [z] at d1; cases d1) (by omega)
    simp only [evB, evS, evE, evT, evEs, evBo, evBoT, evIfC, evP, evI, bind_ok, bind_ex, bind_err, then_ok, then_ex, then_err, opt_some, opt_none, gd_f, gd_ok, t_non, t_bl, t_int, t_tup, b_ii, b_sub, c_eq_i, c_ne_i, c_eq_s, c_ne_s, c_eq_b, c_ne_b, c_lt_i, c_gt_i, c_le_i, c_ge_i, m_lt_i, m_le_i, m_le_s, c_is_n, c_isn_n, c_is_b, c_isn_b, is_n, is_i, is_s, is_b, is_t, is_r, c_in_c, c_nin_c, l_t, i_i, o_c, ix_t, ty_n, ty_b, ty_i, ty_s, ty_t, isinM, asgC, setAll, List.map_cons, List.map_nil, List.cons_append, List.nil_append, List.length_cons, List.length_nil, List.replicate_succ, List.replicate_zero, List.getElem?_cons_zero, List.getElem?_cons_succ, List.getElem?_nil, List.set_cons_zero, List.set_cons_succ, if_true, if_false, Bool.not_true, Bool.not_false, Bool.false_eq_true, Option.map_some, Option.map_none, List.any_cons, List.any_nil, Bool.or_false, Bool.false_or, Bool.or_true, Bool.true_or, Bool.and_true, Bool.true_and, Bool.false_and, Bool.and_false, beq_self_eq_true, String.reduceBEq, decide_true, decide_false, Nat.reduceAdd, Nat.reduceSub, Nat.zero_add, Int.natAbs_natCast, and_self, true_and, and_true, List.isEmpty_cons, List.isEmpty_nil, Option.isSome_some, Option.isSome_none, List.append_nil, sl_s (Nat.le_of_lt hl), cut6, i_s (show (s.drop 6).length ≤ 640 by omega) hi]⟩)
  refine ⟨a, g, ?_, e2⟩
  rw [call_res (k := 2) (b := c46) rfl]
  unfold c46
  unfold namesE at e
  simp only [List.map_cons, List.map_nil, List.length_cons, List.length_nil, Nat.reduceAdd, Nat.reduceSub, List.replicate_succ, List.replicate_zero, List.cons_append, List.nil_append, evB, evS, e, then_ok, resOf]
theorem r47 (n : Nat) (hd : DiskOk h d ns) (hn : ns.length < 64) (hs : ∀ s ∈ ns, s.length < lim) : ∃ a g, cc (n + 3) 47 [.ref d] h = .ok (.ref a) (h ++ g) ∧ h.length ≤ a ∧ (h ++ g)[a]? = some (.lst (((sortS ns).filter (isP [115, 110, 97, 112, 46])).map fun s => .int (NumText.digitsVal (s.drop 5) : Nat))) := by
  obtain ⟨a, g, e, e1, e2⟩ := r44 n hd hn hs
  have ei : evE gs (cc (n + 2)) (.call 44 [.v 0] [] false) [some (.ref d), none] h = .ok (.ref a) (h ++ g) := by simp only [evB, evS, evE, evT, evEs, evBo, evBoT, evIfC, evP, evI, bind_ok, bind_ex, bind_err, then_ok, then_ex, then_err, opt_some, opt_none, gd_f, gd_ok, t_non, t_bl, t_int, t_tup, b_ii, b_sub, c_eq_i, c_ne_i, c_eq_s, c_ne_s, c_eq_b, c_ne_b, c_lt_i, c_gt_i, c_le_i, c_ge_i, m_lt_i, m_le_i, m_le_s, c_is_n, c_isn_n, c_is_b, c_isn_b, is_n, is_i, is_s, is_b, is_t, is_r, c_in_c, c_nin_c, l_t, i_i, o_c, ix_t, ty_n, ty_b, ty_i, ty_s, ty_t, isinM, asgC, setAll, List.map_cons, List.map_nil, List.cons_append, List.nil_append, List.length_cons, List.length_nil, List.replicate_succ, List.replicate_zero, List.getElem?_cons_zero, List.getElem?_cons_succ, List.getElem?_nil, List.set_cons_zero, List.set_cons_succ, if_true, if_false, Bool.not_true, Bool.not_false, Bool.false_eq_true, Option.map_some, Option.map_none, List.any_cons, List.any_nil, Bool.or_false, Bool.false_or, Bool.or_true, Bool.true_or, Bool.and_true, Bool.true_and, Bool.false_and, Bool.and_false, beq_self_eq_true, String.reduceBEq, decide_true, decide_false, Nat.reduceAdd, Nat.reduceSub, Nat.zero_add, Int.natAbs_natCast, and_self, true_and, and_true, List.isEmpty_cons, List.isEmpty_nil, Option.isSome_some, Option.isSome_none, List.append_nil, e]
  obtain ⟨g2, e3⟩ := lc_map (C := cc (n + 2)) (elt := .call 45 [.v 1] [] false) (tg := .one 1) (own := [1]) (fun x => MV.int (NumText.digitsVal ((sv x).drop 5) : Nat)) (evI_l ei e2) (lf_l e2) (by
      rw [List.length_map]
      have := List.length_filter_le (isP [115, 110, 97, 112, 46]) (sortS ns)
      rw [len_sortS] at this
      omega) (fun H k x => at_lst e2 H k x) (by
    intro x hx
    obtain ⟨s, hs', rfl⟩ := List.mem_map.mp hx
    obtain ⟨m1, m2⟩ := List.mem_filter.mp hs'
    have hsl := hs s (mem_sortS.mp m1)
    refine ⟨[some (.ref d), some (.str s)], rfl, fun H _ => ?_⟩
    obtain ⟨g3, e4⟩ := r45 n s H hsl m2
    exact ⟨g3, by simp only [evB, evS, evE, evT, evEs, evBo, evBoT, evIfC, evP, evI, bind_ok, bind_ex, bind_err, then_ok, then_ex, then_err, opt_some, opt_none, gd_f, gd_ok, t_non, t_bl, t_int, t_tup, b_ii, b_sub, c_eq_i, c_ne_i, c_eq_s, c_ne_s, c_eq_b, c_ne_b, c_lt_i, c_gt_i, c_le_i, c_ge_i, m_lt_i, m_le_i, m_le_s, c_is_n, c_isn_n, c_is_b, c_isn_b, is_n, is_i, is_s, is_b, is_t, is_r, c_in_c, c_nin_c, l_t, i_i, o_c, ix_t, ty_n, ty_b, ty_i, ty_s, ty_t, isinM, asgC, setAll, List.map_cons, List.map_nil, List.cons_append, List.nil_append, List.length_cons, List.length_nil, List.replicate_succ, List.replicate_zero, List.getElem?_cons_zero, List.getElem?_cons_succ, List.getElem?_nil, List.set_cons_zero, List.set_cons_succ, if_true, if_false, Bool.not_true, Bool.not_false, Bool.false_eq_true, Option.map_some, Option.map_none, List.any_cons, List.any_nil, Bool.or_false, Bool.false_or, Bool.or_true, Bool.true_or, Bool.and_true, Bool.true_and, Bool.false_and, Bool.and_false, beq_self_eq_true, String.reduceBEq, decide_true, decide_false, Nat.reduceAdd, Nat.reduceSub, Nat.zero_add, Int.natAbs_natCast, and_self, true_and, and_true, List.isEmpty_cons, List.isEmpty_nil, Option.isSome_some, Option.isSome_none, List.append_nil, e4, sv]⟩)
  refine ⟨(h ++ g).length, g ++ .lst ((((sortS ns).filter (isP [115, 110, 97, 112, 46])).map .str).map fun x => MV.int (NumText.digitsVal ((sv x).drop 5) : Nat)) :: g2, ?_, by simp, ?_⟩
  · rw [call_res (k := 2) (b := c47) rfl]
    unfold c47
    simp only [List.map_cons, List.map_nil, List.length_cons, List.length_nil, Nat.reduceAdd, Nat.reduceSub, List.replicate_succ, List.replicate_zero, List.cons_append, List.nil_append, evB, evS, e3, then_ok, resOf]
    rw [List.append_assoc]
  · rw [← List.append_assoc, get_mid, List.map_map]
    rfl
end
end Pg
end

section
set_option linter.all false
set_option maxRecDepth 100000
set_option maxHeartbeats 1000000
namespace Pg
open PySem PySem.Spec L2 Mn
open TL (numL)
/-! ### roots -/
def pgT : Option Nat → List Nat
  | none => [45]
  | some p => numL p
def pgV : Option Nat → MV
  | none => .non
  | some p => .int p
def rootT (a : Nat) (p : Option Nat) (m : Nat) : List Nat := numL a ++ [32] ++ pgT p ++ [32] ++ numL m
theorem b_lim {h : MH} {x y : List Nat} (e : x.length + y.length ≤ 1000) : binM .Add h (.str x) (.str y) = .ok (.str (x ++ y)) h := b_ss (by unfold lim; omega)
theorem pgT_len {p : Option Nat} (hp : ∀ k, p = some k → k < 1000000) : (pgT p).length ≤ 6 := by
  cases p with
  | none => decide
  | some k => exact numL6 (hp k rfl)
theorem r12 (n : Nat) (a m : Nat) (p : Option Nat) (h : MH) (ha : a < 1000000) (hm : m < 1000000) (hp : ∀ k, p = some k → k < 1000000) : cc (n + 3) 12 [.int a, pgV p, .int m] h = .ok (.str (rootT a p m)) h := by
  rw [call_res (k := 3) (b := c12) rfl]
  unfold c12
  have la := numL6 ha
  have lm := numL6 hm
  have lp := pgT_len hp
  have e1 := r9 n a 0 999999 h (by omega) (by omega)
  have e2 := r9 n m 0 1000000 h (by omega) (by omega)
  have s1 : bltM .str h [.int a] = .ok (.str (numL a)) h := by rw [s_i (show (a : Int).natAbs.log2 < 1920 from log_small ha), tl_int]
  have s2 : bltM .str h [.int m] = .ok (.str (numL m)) h := by rw [s_i (show (m : Int).natAbs.log2 < 1920 from log_small hm), tl_int]
  have b1 : binM .Add h (.str (numL a)) (.str [32]) = .ok (.str (numL a ++ [32])) h := b_lim (by simp; omega)
  have b2 : binM .Add h (.str (numL a ++ [32])) (.str (pgT p)) = .ok (.str (numL a ++ [32] ++ pgT p)) h := b_lim (by simp; omega)
  have b3 : binM .Add h (.str (numL a ++ [32] ++ pgT p)) (.str [32]) = .ok (.str (numL a ++ [32] ++ pgT p ++ [32])) h := b_lim (by simp; omega)
  have b4 : binM .Add h (.str (numL a ++ [32] ++ pgT p ++ [32])) (.str (numL m)) = .ok (.str (numL a ++ [32] ++ pgT p ++ [32] ++ numL m)) h := b_lim (by simp; omega)
  cases p with
  | none =>
    simp only [pgT] at b2 b3 b4
    simp only [evB, evS, evE, evT, evEs, evBo, evBoT, evIfC, evP, evI, bind_ok, bind_ex, bind_err, then_ok, then_ex, then_err, opt_some, opt_none, gd_f, gd_ok, t_non, t_bl, t_int, t_tup, b_ii, b_sub, c_eq_i, c_ne_i, c_eq_s, c_ne_s, c_eq_b, c_ne_b, c_lt_i, c_gt_i, c_le_i, c_ge_i, m_lt_i, m_le_i, m_le_s, c_is_n, c_isn_n, c_is_b, c_isn_b, is_n, is_i, is_s, is_b, is_t, is_r, c_in_c, c_nin_c, l_t, i_i, o_c, ix_t, ty_n, ty_b, ty_i, ty_s, ty_t, isinM, asgC, setAll, List.map_cons, List.map_nil, List.cons_append, List.nil_append, List.length_cons, List.length_nil, List.replicate_succ, List.replicate_zero, List.getElem?_cons_zero, List.getElem?_cons_succ, List.getElem?_nil, List.set_cons_zero, List.set_cons_succ, if_true, if_false, Bool.not_true, Bool.not_false, Bool.false_eq_true, Option.map_some, Option.map_none, List.any_cons, List.any_nil, Bool.or_false, Bool.false_or, Bool.or_true, Bool.true_or, Bool.and_true, Bool.true_and, Bool.false_and, Bool.and_false, beq_self_eq_true, String.reduceBEq, decide_true, decide_false, Nat.reduceAdd, Nat.reduceSub, Nat.zero_add, Int.natAbs_natCast, and_self, true_and, and_true, List.isEmpty_cons, List.isEmpty_nil, Option.isSome_some, Option.isSome_none, List.append_nil, pgV, e1, e2, s1, b1, b2, b3, s2, b4, resOf, rootT, pgT]
  | some k =>
    have e3 := r9 n k 0 1000000 h (by omega) (by have := hp k rfl; omega)
    have s3 : bltM .str h [.int k] = .ok (.str (numL k)) h := by rw [s_i (show (k : Int).natAbs.log2 < 1920 from log_small (hp k rfl)), tl_int]
    simp only [pgT] at b2 b3 b4
    simp only [evB, evS, evE, evT, evEs, evBo, evBoT, evIfC, evP, evI, bind_ok, bind_ex, bind_err, then_ok, then_ex, then_err, opt_some, opt_none, gd_f, gd_ok, t_non, t_bl, t_int, t_tup, b_ii, b_sub, c_eq_i, c_ne_i, c_eq_s, c_ne_s, c_eq_b, c_ne_b, c_lt_i, c_gt_i, c_le_i, c_ge_i, m_lt_i, m_le_i, m_le_s, c_is_n, c_isn_n, c_is_b, c_isn_b, is_n, is_i, is_s, is_b, is_t, is_r, c_in_c, c_nin_c, l_t, i_i, o_c, ix_t, ty_n, ty_b, ty_i, ty_s, ty_t, isinM, asgC, setAll, List.map_cons, List.map_nil, List.cons_append, List.nil_append, List.length_cons, List.length_nil, List.replicate_succ, List.replicate_zero, List.getElem?_cons_zero, List.getElem?_cons_succ, List.getElem?_nil, List.set_cons_zero, List.set_cons_succ, if_true, if_false, Bool.not_true, Bool.not_false, Bool.false_eq_true, Option.map_some, Option.map_none, List.any_cons, List.any_nil, Bool.or_false, Bool.false_or, Bool.or_true, Bool.true_or, Bool.and_true, Bool.true_and, Bool.false_and, Bool.and_false, beq_self_eq_true, String.reduceBEq, decide_true, decide_false, Nat.reduceAdd, Nat.reduceSub, Nat.zero_add, Int.natAbs_natCast, and_self, true_and, and_true, List.isEmpty_cons, List.isEmpty_nil, Option.isSome_some, Option.isSome_none, List.append_nil, pgV, e1, e2, e3, s1, b1, s3, b2, b3, s2, b4, resOf, rootT, pgT]
theorem split_m {h : MH} {s t : List Nat} (ht : t ≠ []) (hl : s.length < 1000) (hk : t.all (· < 256) = true) : mtS .split h s [.str t] = .ok (.ref h.length) (h ++ [.lst ((TL.spl t 0 [] s).map .str)]) := by
  have e := TL.split_spl ⟨s.toArray⟩ ⟨t.toArray⟩ ht (TL.kind_ok (by simpa using hk))
  have e2 : ((Txt.split ⟨s.toArray⟩ ⟨t.toArray⟩).map fun z => MV.str (Mn.tl z)) = (TL.spl t 0 [] s).map .str := by
    rw [show TL.spl t 0 [] s = TL.spl (TL.tl ⟨t.toArray⟩) 0 [] (TL.tl ⟨s.toArray⟩) from rfl, ← e, List.map_map]
    rfl
  unfold mtS
  dsimp only
  rw [if_pos ⟨ht, by unfold lim; omega⟩, e2]
  rfl
theorem badK (K s : List Nat) : ((s.map fun c => MV.str [c]).filterMap fun x => match x with
    | .str [c] => if c ∈ K then none else some (MV.str [c])
    | _ => none).isEmpty = s.all fun c => decide (c ∈ K) := by
  induction s with
  | nil => rfl
  | cons c s ih =>
    rw [List.map_cons, List.filterMap_cons, List.all_cons]
    by_cases h : c ∈ K
    · simp only [h, if_true, decide_true, Bool.true_and]
      exact ih
    · simp only [h, if_false, decide_false, Bool.false_and]
      rfl
theorem chr_ev (C : CallS) (K : List Nat) {j : Nat} {es : List CE} {own : List Nat} {sm : MSt} {h : MH} {s : List Nat} (he : evI gs C 0 es sm h = .ok (.seq (s.map fun c => .str [c])) h) (hl : s.length < 1000) (hj : j < (wipeM sm own).length) :
    ∃ g, evT gs C (.tv (.lc (.v j) (.one j) 0 es [.tcmp .NotIn (.v j) (.k (.str K))] own)) sm h = .ok (!(s.all fun c => decide (c ∈ K))) (h ++ g) := by
  obtain ⟨g, e⟩ := lc_fm (C := C) (elt := .v j) (tg := .one j) (kind := 0) (es := es) (ifs := [.tcmp .NotIn (.v j) (.k (.str K))]) (own := own) (sm := sm) (h := h) (h1 := h) (it := .seq (s.map fun c => .str [c])) (xs := s.map fun c => .str [c])
    (fun x => match x with
      | .str [c] => if c ∈ K then none else some (MV.str [c])
      | _ => none) he rfl (by simpa using hl) at_seq (by
    intro x hx
    obtain ⟨c, hc, rfl⟩ := List.mem_map.mp hx
    refine ⟨_, rfl, fun H _ => ⟨!decide (c ∈ K), [], ?_, fun hb => ⟨.str [c], [], ?_, ?_⟩, fun hb => ?_⟩⟩
    · simp only [evIfC, evT, evE, List.getElem?_set_self hj, bind_ok, c_nin_c, opt_some, List.append_nil]
      show (if (!decide (c ∈ K)) = true then _ else _) = _
      cases hd : decide (c ∈ K) <;> rfl
    · simp only [evE, List.getElem?_set_self hj, List.append_nil]
    · have : c ∉ K := by simpa using hb
      simp only [this, if_false]
    · have : c ∈ K := by simpa using hb
      simp only [this, if_true])
  exact ⟨_, by simp only [evT, e, bind_ok, t_lst get_mid, opt_some, badK]; rfl⟩
def DG : List Nat := [45, 48, 49, 50, 51, 52, 53, 54, 55, 56, 57]
def inn (p : List Nat) : Bool := !(p.all fun c => decide (c ∈ DG))
theorem out13 (C : CallS) {h : MH} {a : Nat} {ps : List (List Nat)} {x : MV} (ha : h[a]? = some (.lst (ps.map .str))) (hl : ps.length < 1000) (hp : ∀ p ∈ ps, p.length < 1000) :
    ∃ g, evT gs C (.tv (.lc (.v 5) (.one 5) 0 [.v 1] [.tv (.lc (.v 6) (.one 6) 0 [.v 5] [.tcmp .NotIn (.v 6) (.k (.str [45, 48, 49, 50, 51, 52, 53, 54, 55, 56, 57]))] [6])] [5])) [some x, some (.ref a), none, none, none, none, none] h = .ok (ps.any inn) (h ++ g) := by
  have e0 : evE gs C (.v 1) [some x, some (.ref a), none, none, none, none, none] h = .ok (.ref a) h := rfl
  obtain ⟨g, e⟩ := lc_fm (C := C) (elt := .v 5) (tg := .one 5) (ifs := [.tv (.lc (.v 6) (.one 6) 0 [.v 5] [.tcmp .NotIn (.v 6) (.k (.str [45, 48, 49, 50, 51, 52, 53, 54, 55, 56, 57]))] [6])]) (own := [5]) (xs := ps.map .str) (fun x => if inn (sv x) then some (.str (sv x)) else none) (evI_l e0 ha) (lf_l ha) (by simpa using hl) (fun H k x => at_lst ha H k x) (by
    intro y hy
    obtain ⟨s, hs, rfl⟩ := List.mem_map.mp hy
    have hsl := hp s hs
    refine ⟨[some x, some (.ref a), none, none, none, some (.str s), none], rfl, fun H _ => ?_⟩
    obtain ⟨g2, e2⟩ := chr_ev C [45, 48, 49, 50, 51, 52, 53, 54, 55, 56, 57] (j := 6) (es := [.v 5]) (own := [6]) (sm := [some x, some (.ref a), none, none, none, some (.str s), none]) (h := H) (s := s) (by
      simp only [evB, evS, evE, evT, evEs, evBo, evBoT, evIfC, evP, evI, bind_ok, bind_ex, bind_err, then_ok, then_ex, then_err, opt_some, opt_none, gd_f, gd_ok, t_non, t_bl, t_int, t_tup, b_ii, b_sub, c_eq_i, c_ne_i, c_eq_s, c_ne_s, c_eq_b, c_ne_b, c_lt_i, c_gt_i, c_le_i, c_ge_i, m_lt_i, m_le_i, m_le_s, c_is_n, c_isn_n, c_is_b, c_isn_b, is_n, is_i, is_s, is_b, is_t, is_r, c_in_c, c_nin_c, l_t, i_i, o_c, ix_t, ty_n, ty_b, ty_i, ty_s, ty_t, isinM, asgC, setAll, List.map_cons, List.map_nil, List.cons_append, List.nil_append, List.length_cons, List.length_nil, List.replicate_succ, List.replicate_zero, List.getElem?_cons_zero, List.getElem?_cons_succ, List.getElem?_nil, List.set_cons_zero, List.set_cons_succ, if_true, if_false, Bool.not_true, Bool.not_false, Bool.false_eq_true, Option.map_some, Option.map_none, List.any_cons, List.any_nil, Bool.or_false, Bool.false_or, Bool.or_true, Bool.true_or, Bool.and_true, Bool.true_and, Bool.false_and, Bool.and_false, beq_self_eq_true, String.reduceBEq, decide_true, decide_false, Nat.reduceAdd, Nat.reduceSub, Nat.zero_add, Int.natAbs_natCast, and_self, true_and, and_true, List.isEmpty_cons, List.isEmpty_nil, Option.isSome_some, Option.isSome_none, List.append_nil, it_s (show s.length ≤ lim by unfold lim; omega)]) hsl (by simp [wipeM])
    refine ⟨inn s, g2, ?_, fun hb => ⟨.str s, [], ?_, if_pos hb⟩, fun hb => ?_⟩
    · simp only [evIfC, e2, bind_ok]
      show (if inn s = true then _ else _) = _
      cases inn s <;> rfl
    · simp only [evE, List.getElem?_cons_succ, List.getElem?_cons_zero, List.append_nil]
    · show (if inn s = true then _ else _) = _
      rw [hb]
      rfl)
  rw [fm_if ps inn .str .str _ (fun s _ => rfl)] at e
  refine ⟨_, by
    simp only [evT] at e ⊢
    rw [e]
    simp only [bind_ok, t_lst get_mid, opt_some]
    congr 1
    rw [Bool.eq_iff_iff]
    simp [List.isEmpty_iff, List.filter_eq_nil_iff]⟩
theorem numDG (k : Nat) : inn (numL k) = false := by
  unfold inn
  rw [Bool.not_eq_false', List.all_eq_true]
  intro c hc
  have := TL.numL_digits k c hc
  simp [DG]
  omega
theorem pgDG (p : Option Nat) : inn (pgT p) = false := by
  cases p with
  | none => rfl
  | some k => exact numDG k
theorem root_spl (a : Nat) (p : Option Nat) (m : Nat) : TL.spl [32] 0 [] (rootT a p m) = [numL a, pgT p, numL m] := by
  have : rootT a p m = TL.joinL [32] [numL a, pgT p, numL m] := by simp [rootT, TL.joinL]
  rw [this]
  refine TL.spl_join (by simp) ?_
  intro x hx
  simp only [List.mem_cons, List.not_mem_nil, or_false] at hx
  rcases hx with rfl | rfl | rfl
  · exact TL.numL_free (.inl (by decide))
  · cases p with
    | none => decide
    | some k => exact TL.numL_free (.inl (by decide))
  · exact TL.numL_free (.inl (by decide))
theorem no45 (k : Nat) : (45 ∈ numL k) = False := eq_false (TL.numL_free (.inl (by decide)))
theorem numV {k : Nat} {h : MH} (hk : k < 1000000) : bltM .int h [.str (numL k)] = .ok (.int k) h := by
  have := numL6 hk
  have e := int_digits (TL.numL_digits k) (TL.numL_ne k) (by omega)
  rw [TL.numL_val] at e
  exact i_s (by omega) e
theorem rootT_len {a m : Nat} {p : Option Nat} (ha : a < 1000000) (hm : m < 1000000) (hp : ∀ k, p = some k → k < 1000000) : (rootT a p m).length ≤ 20 := by
  have la := numL6 ha
  have lm := numL6 hm
  have lp := pgT_len hp
  simp [rootT]
  omega
theorem ix_at {h : MH} {a : Nat} {xs : List MV} {k : Nat} {v : MV} (e : h[a]? = some (.lst xs)) (k' : Int) (hk : k' = (k : Int)) (hv : xs[k]? = some v) : ixM h (.ref a) (.int k') = some v := by
  rw [ix_l e, hk]
  exact Mn.atI_nat hv
theorem r13 (n : Nat) (a m : Nat) (p : Option Nat) (h : MH) (ha : a < 1000000) (hm : m < 1000000) (hp : ∀ k, p = some k → k < 1000000) :
    ∃ g, cc (n + 4) 13 [.str (rootT a p m)] h = .ok (.tup [.int a, pgV p, .int m]) (h ++ g) := by
  have hl := rootT_len ha hm hp
  have la := numL6 ha
  have lm := numL6 hm
  have lp := pgT_len hp
  have e1 : mtS .split h (rootT a p m) [.str [32]] = .ok (.ref h.length) (h ++ [.lst [.str (numL a), .str (pgT p), .str (numL m)]]) := by
    rw [split_m (by simp) (by omega) (by decide), root_spl]
    rfl
  have h1 : (h ++ [MO.lst [MV.str (numL a), .str (pgT p), .str (numL m)]])[h.length]? = some (.lst [.str (numL a), .str (pgT p), .str (numL m)]) := get_new
  generalize hH : h ++ [MO.lst [MV.str (numL a), .str (pgT p), .str (numL m)]] = H at e1 h1
  obtain ⟨g, e2⟩ := out13 (cc (n + 3)) (ps := [numL a, pgT p, numL m]) (x := .str (rootT a p m)) (h := H) (a := h.length) h1 (by simp) (by
    intro q hq
    simp only [List.mem_cons, List.not_mem_nil, or_false] at hq
    rcases hq with rfl | rfl | rfl <;> omega)
  have ea : [numL a, pgT p, numL m].any inn = false := by simp [numDG, pgDG]
  rw [ea] at e2
  have h2 : (H ++ g)[h.length]? = some (.lst [.str (numL a), .str (pgT p), .str (numL m)]) := Ext.app.get h1
  have nin : cmpV .In H (.str []) (.ref h.length) = some false := by
    rw [c_in_l (ts := [numL a, pgT p, numL m]) h1]
    congr 1
    have z1 := TL.numL_ne a
    have z3 := TL.numL_ne m
    have z2 : pgT p ≠ [] := by
      cases p with
      | none => decide
      | some k => exact TL.numL_ne k
    simp
    exact ⟨fun z => z1 z, fun z => z2 z, fun z => z3 z⟩
  have i0 : ixM (H ++ g) (.ref h.length) (.int 0) = some (.str (numL a)) := by rw [ix_l h2]; rfl
  have i1 : ixM (H ++ g) (.ref h.length) (.int 1) = some (.str (pgT p)) := by rw [ix_l h2]; rfl
  have i2 : ixM (H ++ g) (.ref h.length) (.int 2) = some (.str (numL m)) := by rw [ix_l h2]; rfl
  have b1 : binM .Add (H ++ g) (.str (numL a)) (.str (numL m)) = .ok (.str (numL a ++ numL m)) (H ++ g) := b_lim (by omega)
  have m1 : decide (45 ∈ numL a ++ numL m) = false := by simp [no45]
  have e12 := r12 n a m p (H ++ g) ha hm hp
  have l3 : (3 : Nat) ≤ lim := by unfold lim; omega
  have t0 : ∀ x y z : MV, atI [x, y, z] 0 = some x := fun _ _ _ => rfl
  have t1 : ∀ x y z : MV, atI [x, y, z] 1 = some y := fun _ _ _ => rfl
  have t2 : ∀ x y z : MV, atI [x, y, z] 2 = some z := fun _ _ _ => rfl
  have d33 : decide ((3 : Int) = 3) = true := by decide
  refine ⟨[MO.lst [MV.str (numL a), .str (pgT p), .str (numL m)]] ++ g, ?_⟩
  rw [← List.append_assoc, hH]
  rw [call_res (k := 7) (b := c13) rfl]
  unfold c13
  generalize (CE.tv (.lc (.v 5) (.one 5) 0 [.v 1] [.tv (.lc (.v 6) (.one 6) 0 [.v 5] [.tcmp .NotIn (.v 6) (.k (.str [45, 48, 49, 50, 51, 52, 53, 54, 55, 56, 57]))] [6])] [5])) = N at e2 ⊢
  cases p with
  | none =>
    have ll : bltM .len H [.ref h.length] = .ok (.int 3) H := by rw [l_l h1]; rfl
    simp only [pgT, pgV] at i1 e12
    simp only [evB, evS, evE, evT, evEs, evBo, evBoT, evIfC, evP, evI, bind_ok, bind_ex, bind_err, then_ok, then_ex, then_err, opt_some, opt_none, gd_f, gd_ok, t_non, t_bl, t_int, t_tup, b_ii, b_sub, c_eq_i, c_ne_i, c_eq_s, c_ne_s, c_eq_b, c_ne_b, c_lt_i, c_gt_i, c_le_i, c_ge_i, m_lt_i, m_le_i, m_le_s, c_is_n, c_isn_n, c_is_b, c_isn_b, is_n, is_i, is_s, is_b, is_t, is_r, c_in_c, c_nin_c, l_t, i_i, o_c, ix_t, ty_n, ty_b, ty_i, ty_s, ty_t, isinM, asgC, setAll, List.map_cons, List.map_nil, List.cons_append, List.nil_append, List.length_cons, List.length_nil, List.replicate_succ, List.replicate_zero, List.getElem?_cons_zero, List.getElem?_cons_succ, List.getElem?_nil, List.set_cons_zero, List.set_cons_succ, if_true, if_false, Bool.not_true, Bool.not_false, Bool.false_eq_true, Option.map_some, Option.map_none, List.any_cons, List.any_nil, Bool.or_false, Bool.false_or, Bool.or_true, Bool.true_or, Bool.and_true, Bool.true_and, Bool.false_and, Bool.and_false, beq_self_eq_true, String.reduceBEq, decide_true, decide_false, Nat.reduceAdd, Nat.reduceSub, Nat.zero_add, Int.natAbs_natCast, and_self, true_and, and_true, List.isEmpty_cons, List.isEmpty_nil, Option.isSome_some, Option.isSome_none, List.append_nil, e1, ll, nin, e2, i0, i2, b1, m1, i1, numV ha, numV hm, l3, t0, t1, t2, e12, pgV, resOf, (by decide : decide (45 ∈ [45]) = true)]
  | some k =>
    have hk := hp k rfl
    have ll : bltM .len H [.ref h.length] = .ok (.int 3) H := by rw [l_l h1]; rfl
    simp only [pgT, pgV] at i1 e12
    have ne : (numL k = [45]) = False := eq_false fun z => by
      have : (45 : Nat) ∈ numL k := by rw [z]; simp
      rw [no45] at this
      exact this
    simp only [evB, evS, evE, evT, evEs, evBo, evBoT, evIfC, evP, evI, bind_ok, bind_ex, bind_err, then_ok, then_ex, then_err, opt_some, opt_none, gd_f, gd_ok, t_non, t_bl, t_int, t_tup, b_ii, b_sub, c_eq_i, c_ne_i, c_eq_s, c_ne_s, c_eq_b, c_ne_b, c_lt_i, c_gt_i, c_le_i, c_ge_i, m_lt_i, m_le_i, m_le_s, c_is_n, c_isn_n, c_is_b, c_isn_b, is_n, is_i, is_s, is_b, is_t, is_r, c_in_c, c_nin_c, l_t, i_i, o_c, ix_t, ty_n, ty_b, ty_i, ty_s, ty_t, isinM, asgC, setAll, List.map_cons, List.map_nil, List.cons_append, List.nil_append, List.length_cons, List.length_nil, List.replicate_succ, List.replicate_zero, List.getElem?_cons_zero, List.getElem?_cons_succ, List.getElem?_nil, List.set_cons_zero, List.set_cons_succ, if_true, if_false, Bool.not_true, Bool.not_false, Bool.false_eq_true, Option.map_some, Option.map_none, List.any_cons, List.any_nil, Bool.or_false, Bool.false_or, Bool.or_true, Bool.true_or, Bool.and_true, Bool.true_and, Bool.false_and, Bool.and_false, beq_self_eq_true, String.reduceBEq, decide_true, decide_false, Nat.reduceAdd, Nat.reduceSub, Nat.zero_add, Int.natAbs_natCast, and_self, true_and, and_true, List.isEmpty_cons, List.isEmpty_nil, Option.isSome_some, Option.isSome_none, List.append_nil, e1, ll, nin, e2, i0, i2, b1, m1, i1, no45, ne, numV hk, numV ha, numV hm, l3, t0, t1, t2, e12, pgV, resOf]
end Pg
end

section
set_option linter.all false
set_option maxRecDepth 100000
set_option maxHeartbeats 1000000
namespace Pg
open PySem PySem.Spec L2 Mn
open TL (numL)
/-! ### texts that are no roots -/
theorem bad_len (n : Nat) (w : List Nat) (h : MH) (hw : w.length < 1000) (k : (TL.spl [32] 0 [] w).length ≠ 3) : ∃ g, cc (n + 4) 13 [.str w] h = .ex ⟨3, []⟩ (h ++ g) := by
  have e1 := split_m (h := h) (s := w) (t := [32]) (by simp) hw (by decide)
  have h1 : (h ++ [MO.lst ((TL.spl [32] 0 [] w).map .str)])[h.length]? = some (.lst ((TL.spl [32] 0 [] w).map .str)) := get_new
  refine ⟨[MO.lst ((TL.spl [32] 0 [] w).map .str)], ?_⟩
  generalize hH : h ++ [MO.lst ((TL.spl [32] 0 [] w).map .str)] = H at e1 h1 ⊢
  have ll : bltM .len H [.ref h.length] = .ok (.int (TL.spl [32] 0 [] w).length) H := by rw [l_l h1, List.length_map]
  have d : decide (((TL.spl [32] 0 [] w).length : Int) = 3) = false := by simp; omega
  rw [call_res (k := 7) (b := c13) rfl]
  unfold c13
  generalize (CE.tv (.lc (.v 5) (.one 5) 0 [.v 1] [.tv (.lc (.v 6) (.one 6) 0 [.v 5] [.tcmp .NotIn (.v 6) (.k (.str [45, 48, 49, 50, 51, 52, 53, 54, 55, 56, 57]))] [6])] [5])) = N
  simp only [evB, evS, evE, evT, evEs, evBo, evBoT, evIfC, evP, evI, bind_ok, bind_ex, bind_err, then_ok, then_ex, then_err, opt_some, opt_none, gd_f, gd_ok, t_non, t_bl, t_int, t_tup, b_ii, b_sub, c_eq_i, c_ne_i, c_eq_s, c_ne_s, c_eq_b, c_ne_b, c_lt_i, c_gt_i, c_le_i, c_ge_i, m_lt_i, m_le_i, m_le_s, c_is_n, c_isn_n, c_is_b, c_isn_b, is_n, is_i, is_s, is_b, is_t, is_r, c_in_c, c_nin_c, l_t, i_i, o_c, ix_t, ty_n, ty_b, ty_i, ty_s, ty_t, isinM, asgC, setAll, List.map_cons, List.map_nil, List.cons_append, List.nil_append, List.length_cons, List.length_nil, List.replicate_succ, List.replicate_zero, List.getElem?_cons_zero, List.getElem?_cons_succ, List.getElem?_nil, List.set_cons_zero, List.set_cons_succ, if_true, if_false, Bool.not_true, Bool.not_false, Bool.false_eq_true, Option.map_some, Option.map_none, List.any_cons, List.any_nil, Bool.or_false, Bool.false_or, Bool.or_true, Bool.true_or, Bool.and_true, Bool.true_and, Bool.false_and, Bool.and_false, beq_self_eq_true, String.reduceBEq, decide_true, decide_false, Nat.reduceAdd, Nat.reduceSub, Nat.zero_add, Int.natAbs_natCast, and_self, true_and, and_true, List.isEmpty_cons, List.isEmpty_nil, Option.isSome_some, Option.isSome_none, List.append_nil, e1, ll, d, resOf]
theorem bad_mid (n : Nat) (w p0 p1 p2 : List Nat) (h : MH) (hw : w.length < 1000) (k : TL.spl [32] 0 [] w = [p0, p1, p2]) (k1 : decide ([] ∈ [p0, p1, p2]) = false) (k2 : p0.length < 100 ∧ p1.length < 100 ∧ p2.length < 100) (k3 : [p0, p1, p2].any inn = true ∨ ([p0, p1, p2].any inn = false ∧ decide (45 ∈ p0 ++ p2) = true)) : ∃ g, cc (n + 4) 13 [.str w] h = .ex ⟨3, []⟩ (h ++ g) := by
  have e1 := split_m (h := h) (s := w) (t := [32]) (by simp) hw (by decide)
  rw [k] at e1
  have h1 : (h ++ [MO.lst ([p0, p1, p2].map .str)])[h.length]? = some (.lst ([p0, p1, p2].map .str)) := get_new
  generalize hH : h ++ [MO.lst ([p0, p1, p2].map .str)] = H at e1 h1
  obtain ⟨g, e2⟩ := out13 (cc (n + 3)) (ps := [p0, p1, p2]) (x := .str w) (h := H) (a := h.length) h1 (by simp) (by
    intro q hq
    simp only [List.mem_cons, List.not_mem_nil, or_false] at hq
    rcases hq with rfl | rfl | rfl <;> omega)
  have h2 : (H ++ g)[h.length]? = some (.lst ([p0, p1, p2].map .str)) := Ext.app.get h1
  have nin : cmpV .In H (.str []) (.ref h.length) = some false := by
    rw [c_in_l (ts := [p0, p1, p2]) h1, k1]
  have i0 : ixM (H ++ g) (.ref h.length) (.int 0) = some (.str p0) := by rw [ix_l h2]; rfl
  have i1 : ixM (H ++ g) (.ref h.length) (.int 1) = some (.str p1) := by rw [ix_l h2]; rfl
  have i2 : ixM (H ++ g) (.ref h.length) (.int 2) = some (.str p2) := by rw [ix_l h2]; rfl
  have b1 : binM .Add (H ++ g) (.str p0) (.str p2) = .ok (.str (p0 ++ p2)) (H ++ g) := b_lim (by omega)
  have ll : bltM .len H [.ref h.length] = .ok (.int 3) H := by rw [l_l h1]; rfl
  refine ⟨[MO.lst ([p0, p1, p2].map .str)] ++ g, ?_⟩
  rw [← List.append_assoc, hH]
  rw [call_res (k := 7) (b := c13) rfl]
  unfold c13
  generalize (CE.tv (.lc (.v 5) (.one 5) 0 [.v 1] [.tv (.lc (.v 6) (.one 6) 0 [.v 5] [.tcmp .NotIn (.v 6) (.k (.str [45, 48, 49, 50, 51, 52, 53, 54, 55, 56, 57]))] [6])] [5])) = N at e2 ⊢
  rcases k3 with k3 | ⟨k3, k4⟩
  · rw [k3] at e2
    simp only [evB, evS, evE, evT, evEs, evBo, evBoT, evIfC, evP, evI, bind_ok, bind_ex, bind_err, then_ok, then_ex, then_err, opt_some, opt_none, gd_f, gd_ok, t_non, t_bl, t_int, t_tup, b_ii, b_sub, c_eq_i, c_ne_i, c_eq_s, c_ne_s, c_eq_b, c_ne_b, c_lt_i, c_gt_i, c_le_i, c_ge_i, m_lt_i, m_le_i, m_le_s, c_is_n, c_isn_n, c_is_b, c_isn_b, is_n, is_i, is_s, is_b, is_t, is_r, c_in_c, c_nin_c, l_t, i_i, o_c, ix_t, ty_n, ty_b, ty_i, ty_s, ty_t, isinM, asgC, setAll, List.map_cons, List.map_nil, List.cons_append, List.nil_append, List.length_cons, List.length_nil, List.replicate_succ, List.replicate_zero, List.getElem?_cons_zero, List.getElem?_cons_succ, List.getElem?_nil, List.set_cons_zero, List.set_cons_succ, if_true, if_false, Bool.not_true, Bool.not_false, Bool.false_eq_true, Option.map_some, Option.map_none, List.any_cons, List.any_nil, Bool.or_false, Bool.false_or, Bool.or_true, Bool.true_or, Bool.and_true, Bool.true_and, Bool.false_and, Bool.and_false, beq_self_eq_true, String.reduceBEq, decide_true, decide_false, Nat.reduceAdd, Nat.reduceSub, Nat.zero_add, Int.natAbs_natCast, and_self, true_and, and_true, List.isEmpty_cons, List.isEmpty_nil, Option.isSome_some, Option.isSome_none, List.append_nil, e1, ll, nin, e2, resOf]
  · rw [k3] at e2
    simp only [evB, evS, evE, evT, evEs, evBo, evBoT, evIfC, evP, evI, bind_ok, bind_ex, bind_err, then_ok, then_ex, then_err, opt_some, opt_none, gd_f, gd_ok, t_non, t_bl, t_int, t_tup, b_ii, b_sub, c_eq_i, c_ne_i, c_eq_s, c_ne_s, c_eq_b, c_ne_b, c_lt_i, c_gt_i, c_le_i, c_ge_i, m_lt_i, m_le_i, m_le_s, c_is_n, c_isn_n, c_is_b, c_isn_b, is_n, is_i, is_s, is_b, is_t, is_r, c_in_c, c_nin_c, l_t, i_i, o_c, ix_t, ty_n, ty_b, ty_i, ty_s, ty_t, isinM, asgC, setAll, List.map_cons, List.map_nil, List.cons_append, List.nil_append, List.length_cons, List.length_nil, List.replicate_succ, List.replicate_zero, List.getElem?_cons_zero, List.getElem?_cons_succ, List.getElem?_nil, List.set_cons_zero, List.set_cons_succ, if_true, if_false, Bool.not_true, Bool.not_false, Bool.false_eq_true, Option.map_some, Option.map_none, List.any_cons, List.any_nil, Bool.or_false, Bool.false_or, Bool.or_true, Bool.true_or, Bool.and_true, Bool.true_and, Bool.false_and, Bool.and_false, beq_self_eq_true, String.reduceBEq, decide_true, decide_false, Nat.reduceAdd, Nat.reduceSub, Nat.zero_add, Int.natAbs_natCast, and_self, true_and, and_true, List.isEmpty_cons, List.isEmpty_nil, Option.isSome_some, Option.isSome_none, List.append_nil, e1, ll, nin, e2, i0, i2, b1, k4, resOf]
theorem bad_01 (n : Nat) (h : MH) : ∃ g, cc (n + 4) 13 [.str [48, 49, 32, 49, 32, 49]] h = .ex ⟨3, []⟩ (h ++ g) := by
  have e1 := split_m (h := h) (s := [48, 49, 32, 49, 32, 49]) (t := [32]) (by simp) (by decide) (by decide)
  have ks : TL.spl [32] 0 [] [48, 49, 32, 49, 32, 49] = [[48, 49], [49], [49]] := by decide
  rw [ks] at e1
  have h1 : (h ++ [MO.lst ([[48, 49], [49], [49]].map .str)])[h.length]? = some (.lst ([[48, 49], [49], [49]].map .str)) := get_new
  generalize hH : h ++ [MO.lst ([[48, 49], [49], [49]].map .str)] = H at e1 h1
  obtain ⟨g, e2⟩ := out13 (cc (n + 3)) (ps := [[48, 49], [49], [49]]) (x := .str [48, 49, 32, 49, 32, 49]) (h := H) (a := h.length) h1 (by simp) (by
    intro q hq
    simp only [List.mem_cons, List.not_mem_nil, or_false] at hq
    rcases hq with rfl | rfl | rfl <;> decide)
  have k3 : [[48, 49], [49], [49]].any inn = false := by decide
  rw [k3] at e2
  have h2 : (H ++ g)[h.length]? = some (.lst ([[48, 49], [49], [49]].map .str)) := Ext.app.get h1
  have nin : cmpV .In H (.str []) (.ref h.length) = some false := by
    rw [c_in_l (ts := [[48, 49], [49], [49]]) h1]
    rfl
  have i0 : ixM (H ++ g) (.ref h.length) (.int 0) = some (.str [48, 49]) := by rw [ix_l h2]; rfl
  have i1 : ixM (H ++ g) (.ref h.length) (.int 1) = some (.str [49]) := by rw [ix_l h2]; rfl
  have i2 : ixM (H ++ g) (.ref h.length) (.int 2) = some (.str [49]) := by rw [ix_l h2]; rfl
  have b1 : binM .Add (H ++ g) (.str [48, 49]) (.str [49]) = .ok (.str [48, 49, 49]) (H ++ g) := b_lim (by decide)
  have ll : bltM .len H [.ref h.length] = .ok (.int 3) H := by rw [l_l h1]; rfl
  have v1 : ∀ h : MH, bltM .int h [.str [48, 49]] = .ok (.int 1) h := fun h => i_s (by decide) (int_digits (by intro c hc; simp at hc; omega) (by simp) (by decide))
  have v2 : ∀ h : MH, bltM .int h [.str [49]] = .ok (.int 1) h := fun h => i_s (by decide) (int_digits (by intro c hc; simp at hc; omega) (by simp) (by decide))
  have e12 := r12 n 1 1 (some 1) (H ++ g) (by decide) (by decide) (by intro k hk; cases hk; decide)
  have rt : rootT 1 (some 1) 1 = [49, 32, 49, 32, 49] := by decide
  rw [rt] at e12
  have l3 : (3 : Nat) ≤ lim := by unfold lim; omega
  have t0 : ∀ x y z : MV, atI [x, y, z] 0 = some x := fun _ _ _ => rfl
  have t1 : ∀ x y z : MV, atI [x, y, z] 1 = some y := fun _ _ _ => rfl
  have t2 : ∀ x y z : MV, atI [x, y, z] 2 = some z := fun _ _ _ => rfl
  have m1 : decide (45 ∈ [48, 49, 49]) = false := by decide
  have m2 : decide (45 ∈ [49]) = false := by decide
  have m3 : ¬ ([49] : List Nat) = [45] := by decide
  have m4 : ¬ ([49, 32, 49, 32, 49] : List Nat) = [48, 49, 32, 49, 32, 49] := by decide
  simp only [pgV, Int.natCast_one] at e12
  refine ⟨[MO.lst ([[48, 49], [49], [49]].map .str)] ++ g, ?_⟩
  rw [← List.append_assoc, hH]
  rw [call_res (k := 7) (b := c13) rfl]
  unfold c13
  generalize (CE.tv (.lc (.v 5) (.one 5) 0 [.v 1] [.tv (.lc (.v 6) (.one 6) 0 [.v 5] [.tcmp .NotIn (.v 6) (.k (.str [45, 48, 49, 50, 51, 52, 53, 54, 55, 56, 57]))] [6])] [5])) = N at e2 ⊢
  simp only [evB, evS, evE, evT, evEs, evBo, evBoT, evIfC, evP, evI, bind_ok, bind_ex, bind_err, then_ok, then_ex, then_err, opt_some, opt_none, gd_f, gd_ok, t_non, t_bl, t_int, t_tup, b_ii, b_sub, c_eq_i, c_ne_i, c_eq_s, c_ne_s, c_eq_b, c_ne_b, c_lt_i, c_gt_i, c_le_i, c_ge_i, m_lt_i, m_le_i, m_le_s, c_is_n, c_isn_n, c_is_b, c_isn_b, is_n, is_i, is_s, is_b, is_t, is_r, c_in_c, c_nin_c, l_t, i_i, o_c, ix_t, ty_n, ty_b, ty_i, ty_s, ty_t, isinM, asgC, setAll, List.map_cons, List.map_nil, List.cons_append, List.nil_append, List.length_cons, List.length_nil, List.replicate_succ, List.replicate_zero, List.getElem?_cons_zero, List.getElem?_cons_succ, List.getElem?_nil, List.set_cons_zero, List.set_cons_succ, if_true, if_false, Bool.not_true, Bool.not_false, Bool.false_eq_true, Option.map_some, Option.map_none, List.any_cons, List.any_nil, Bool.or_false, Bool.false_or, Bool.or_true, Bool.true_or, Bool.and_true, Bool.true_and, Bool.false_and, Bool.and_false, beq_self_eq_true, String.reduceBEq, decide_true, decide_false, Nat.reduceAdd, Nat.reduceSub, Nat.zero_add, Int.natAbs_natCast, and_self, true_and, and_true, List.isEmpty_cons, List.isEmpty_nil, Option.isSome_some, Option.isSome_none, List.append_nil, e1, ll, nin, e2, i0, i2, b1, m1, i1, m2, m3, m4, v1, v2, l3, t0, t1, t2, e12, resOf]
def bads : List (List Nat) := [[], [49, 32, 50], [49, 32, 50, 32, 51, 32, 52], [97, 32, 49, 32, 49], [49, 32, 97, 32, 49], [48, 49, 32, 49, 32, 49], [49, 32, 49, 32, 45, 49], [45, 32, 49, 32, 49], [49, 32, 32, 49, 32, 49]]
theorem r13x (n : Nat) (w : List Nat) (h : MH) (hw : w ∈ bads) : ∃ g, cc (n + 4) 13 [.str w] h = .ex ⟨3, []⟩ (h ++ g) := by
  simp only [bads, List.mem_cons, List.not_mem_nil, or_false] at hw
  rcases hw with rfl | rfl | rfl | rfl | rfl | rfl | rfl | rfl | rfl
  · exact bad_len n _ h (by decide) (by decide)
  · exact bad_len n _ h (by decide) (by decide)
  · exact bad_len n _ h (by decide) (by decide)
  · exact bad_mid n _ [97] [49] [49] h (by decide) (by decide) (by decide) (by decide) (by decide)
  · exact bad_mid n _ [49] [97] [49] h (by decide) (by decide) (by decide) (by decide) (by decide)
  · exact bad_01 n h
  · exact bad_mid n _ [49] [49] [45, 49] h (by decide) (by decide) (by decide) (by decide) (by decide)
  · exact bad_mid n _ [45] [49] [49] h (by decide) (by decide) (by decide) (by decide) (by decide)
  · exact bad_len n _ h (by decide) (by decide)
end Pg
end

section
set_option linter.all false
set_option maxRecDepth 100000
set_option maxHeartbeats 1000000
namespace Pg
open PySem PySem.Spec L2 Mn
open TL (numL)
/-! ### frames -/
def stp (f c : Nat) : Nat := (f * 8191 + c) % 1000003
def chk (s : List Nat) : Nat := s.foldl stp 7
theorem chk_lt (s : List Nat) : chk s < 1000003 := by
  unfold chk
  have : ∀ (s : List Nat) (f : Nat), f < 1000003 → s.foldl stp f < 1000003 := by
    intro s
    induction s with
    | nil => exact fun f h => h
    | cons c s ih => exact fun f _ => ih _ (Nat.mod_lt _ (by decide))
  exact this s 7 (by decide)
def chkB : List CS := [.set 1 (.bin .Mod (.bin .Add (.bin .Mult (.v 1) (.k (.int 8191))) (.blt .ord [.v 2])) (.k (.int 1000003)))]
theorem chk_step (C : CallS) (s : List Nat) (F G : Int) (c : Nat) (h : MH) (hG : (F * 8191 + (c : Int)) % 1000003 = G) : evB gs C chkB [some (.str s), some (.int F), some (.str [c])] h = .nx [some (.str s), some (.int G), some (.str [c])] h := by
  unfold chkB
  simp only [evB, evS, evE, evT, evEs, evBo, evBoT, evIfC, evP, evI, bind_ok, bind_ex, bind_err, then_ok, then_ex, then_err, opt_some, opt_none, gd_f, gd_ok, t_non, t_bl, t_int, t_tup, b_ii, b_sub, c_eq_i, c_ne_i, c_eq_s, c_ne_s, c_eq_b, c_ne_b, c_lt_i, c_gt_i, c_le_i, c_ge_i, m_lt_i, m_le_i, m_le_s, c_is_n, c_isn_n, c_is_b, c_isn_b, is_n, is_i, is_s, is_b, is_t, is_r, c_in_c, c_nin_c, l_t, i_i, o_c, ix_t, ty_n, ty_b, ty_i, ty_s, ty_t, isinM, asgC, setAll, List.map_cons, List.map_nil, List.cons_append, List.nil_append, List.length_cons, List.length_nil, List.replicate_succ, List.replicate_zero, List.getElem?_cons_zero, List.getElem?_cons_succ, List.getElem?_nil, List.set_cons_zero, List.set_cons_succ, if_true, if_false, Bool.not_true, Bool.not_false, Bool.false_eq_true, Option.map_some, Option.map_none, List.any_cons, List.any_nil, Bool.or_false, Bool.false_or, Bool.or_true, Bool.true_or, Bool.and_true, Bool.true_and, Bool.false_and, Bool.and_false, beq_self_eq_true, String.reduceBEq, decide_true, decide_false, Nat.reduceAdd, Nat.reduceSub, Nat.zero_add, Int.natAbs_natCast, and_self, true_and, and_true, List.isEmpty_cons, List.isEmpty_nil, Option.isSome_some, Option.isSome_none, List.append_nil, b_mul (i := F) (j := 8191) (.inr (by decide)), b_mod (show (0 : Int) < 1000003 by decide), hG]
theorem chk_loop (C : CallS) (s : List Nat) (h : MH) (hl : s.length < 1000) (F : Nat → Int) (hF0 : F 0 = 7) (hF : ∀ (k c : Nat), s[k]? = some c → (F k * 8191 + (c : Int)) % 1000003 = F (k + 1)) :
    ∃ z, evS gs C (.for_ (.one 2) 0 [.v 0] chkB) [some (.str s), some (.int 7), none] h = .nx [some (.str s), some (.int (F s.length)), z] h := by
  obtain ⟨sm', h', e, z, e1, e2⟩ := forC_run (tg := .one 2) (it := .seq (s.map fun c => .str [c])) (b := fun sm h => evB gs C chkB sm h) s.length
    (fun k sm H => ∃ z, sm = [some (.str s), some (.int (F k)), z] ∧ H = h) (m := s.length + 1) (sm := [some (.str s), some (.int 7), none]) (h := h) (Nat.lt_succ_self _) ⟨none, by rw [hF0], rfl⟩ (by
      rintro k sm H hk ⟨z, rfl, rfl⟩
      have hs : s[k]? = some s[k] := List.getElem?_eq_getElem hk
      refine ⟨.str [s[k]], _, by show some ((s.map fun c => MV.str [c])[k]?) = _; rw [List.getElem?_map, hs]; rfl, rfl, [some (.str s), some (.int (F (k + 1))), some (.str [s[k]])], H, .inl (chk_step C s _ _ _ H (hF k _ hs)), some (.str [s[k]]), rfl, rfl⟩) (by
      rintro sm H ⟨z, _, _⟩
      show some ((s.map fun c => MV.str [c])[s.length]?) = _
      rw [List.getElem?_eq_none (by simp)])
  refine ⟨z, ?_⟩
  rw [evS_for (it := .seq (s.map fun c => .str [c])) (h1 := h) (by simp only [evB, evS, evE, evT, evEs, evBo, evBoT, evIfC, evP, evI, bind_ok, bind_ex, bind_err, then_ok, then_ex, then_err, opt_some, opt_none, gd_f, gd_ok, t_non, t_bl, t_int, t_tup, b_ii, b_sub, c_eq_i, c_ne_i, c_eq_s, c_ne_s, c_eq_b, c_ne_b, c_lt_i, c_gt_i, c_le_i, c_ge_i, m_lt_i, m_le_i, m_le_s, c_is_n, c_isn_n, c_is_b, c_isn_b, is_n, is_i, is_s, is_b, is_t, is_r, c_in_c, c_nin_c, l_t, i_i, o_c, ix_t, ty_n, ty_b, ty_i, ty_s, ty_t, isinM, asgC, setAll, List.map_cons, List.map_nil, List.cons_append, List.nil_append, List.length_cons, List.length_nil, List.replicate_succ, List.replicate_zero, List.getElem?_cons_zero, List.getElem?_cons_succ, List.getElem?_nil, List.set_cons_zero, List.set_cons_succ, if_true, if_false, Bool.not_true, Bool.not_false, Bool.false_eq_true, Option.map_some, Option.map_none, List.any_cons, List.any_nil, Bool.or_false, Bool.false_or, Bool.or_true, Bool.true_or, Bool.and_true, Bool.true_and, Bool.false_and, Bool.and_false, beq_self_eq_true, String.reduceBEq, decide_true, decide_false, Nat.reduceAdd, Nat.reduceSub, Nat.zero_add, Int.natAbs_natCast, and_self, true_and, and_true, List.isEmpty_cons, List.isEmpty_nil, Option.isSome_some, Option.isSome_none, List.append_nil, it_s (show s.length ≤ lim by unfold lim; omega)])]
  rw [show (It.seq (s.map fun c => MV.str [c])).fuel h = s.length + 1 by simp [It.fuel]]
  rw [e, e1, e2]
theorem stp_int (f c : Nat) : ((f : Int) * 8191 + (c : Int)) % 1000003 = ((stp f c : Nat) : Int) := by
  unfold stp
  omega
theorem chk_int (s : List Nat) (k c : Nat) (hs : s[k]? = some c) : ((chk (s.take k) : Nat) : Int) * 8191 + (c : Int) = ((chk (s.take k) : Nat) : Int) * 8191 + (c : Int) ∧ chk (s.take (k + 1)) = stp (chk (s.take k)) c := by
  refine ⟨rfl, ?_⟩
  unfold chk
  rw [List.take_add_one, hs, List.foldl_append]
  rfl
theorem r1 (n : Nat) (s : List Nat) (h : MH) (hl : s.length < 1000) : cc (n + 1) 1 [.str s] h = .ok (.int (chk s : Nat)) h := by
  obtain ⟨z, ev⟩ := chk_loop (cc n) s h hl (fun k => ((chk (s.take k) : Nat) : Int)) rfl (fun k c hs => by
    rw [(chk_int s k c hs).2]
    exact stp_int _ _)
  rw [List.take_length] at ev
  rw [call_res (k := 3) (b := c1) rfl]
  unfold c1
  unfold chkB at ev
  generalize chk s = R at ev ⊢
  generalize (CS.for_ (.one 2) 0 [.v 0] [.set 1 (.bin .Mod (.bin .Add (.bin .Mult (.v 1) (.k (.int 8191))) (.blt .ord [.v 2])) (.k (.int 1000003)))]) = N at ev ⊢
  simp only [evB, evS, evE, evT, evEs, evBo, evBoT, evIfC, evP, evI, bind_ok, bind_ex, bind_err, then_ok, then_ex, then_err, opt_some, opt_none, gd_f, gd_ok, t_non, t_bl, t_int, t_tup, b_ii, b_sub, c_eq_i, c_ne_i, c_eq_s, c_ne_s, c_eq_b, c_ne_b, c_lt_i, c_gt_i, c_le_i, c_ge_i, m_lt_i, m_le_i, m_le_s, c_is_n, c_isn_n, c_is_b, c_isn_b, is_n, is_i, is_s, is_b, is_t, is_r, c_in_c, c_nin_c, l_t, i_i, o_c, ix_t, ty_n, ty_b, ty_i, ty_s, ty_t, isinM, asgC, setAll, List.map_cons, List.map_nil, List.cons_append, List.nil_append, List.length_cons, List.length_nil, List.replicate_succ, List.replicate_zero, List.getElem?_cons_zero, List.getElem?_cons_succ, List.getElem?_nil, List.set_cons_zero, List.set_cons_succ, if_true, if_false, Bool.not_true, Bool.not_false, Bool.false_eq_true, Option.map_some, Option.map_none, List.any_cons, List.any_nil, Bool.or_false, Bool.false_or, Bool.or_true, Bool.true_or, Bool.and_true, Bool.true_and, Bool.false_and, Bool.and_false, beq_self_eq_true, String.reduceBEq, decide_true, decide_false, Nat.reduceAdd, Nat.reduceSub, Nat.zero_add, Int.natAbs_natCast, and_self, true_and, and_true, List.isEmpty_cons, List.isEmpty_nil, Option.isSome_some, Option.isSome_none, List.append_nil, ev, resOf]
def plainC (c : Nat) : Prop := 32 ≤ c ∧ c ≤ 126 ∧ c ≠ 63
theorem lt1 (c d : Nat) : (([c] : List Nat) < [d]) ↔ c < d := by
  rw [List.cons_lt_cons_iff]
  simp
theorem r2 (n : Nat) (s : List Nat) (h : MH) (hl : s.length < 1000) (hc : ∀ c ∈ s, plainC c) : ∃ g, cc (n + 1) 2 [.str s] h = .ok (.str s) (h ++ g) := by
  obtain ⟨g, e⟩ := lc_fm (C := cc n) (elt := .v 1) (tg := .one 1) (kind := 0) (es := [.v 0]) (ifs := [.tbo .Or [.tcmp .Eq (.v 1) (.k (.str [63])), .tbo .And [.tcmp .NotEq (.v 1) (.k (.str [10])), .tnot (.tch .LtE .LtE (.k (.str [32])) (.v 1) (.k (.str [126])))]]]) (own := [1]) (sm := [some (.str s), none]) (h := h) (h1 := h) (it := .seq (s.map fun c => .str [c])) (xs := s.map fun c => .str [c])
    (fun x => none) (by simp only [evB, evS, evE, evT, evEs, evBo, evBoT, evIfC, evP, evI, bind_ok, bind_ex, bind_err, then_ok, then_ex, then_err, opt_some, opt_none, gd_f, gd_ok, t_non, t_bl, t_int, t_tup, b_ii, b_sub, c_eq_i, c_ne_i, c_eq_s, c_ne_s, c_eq_b, c_ne_b, c_lt_i, c_gt_i, c_le_i, c_ge_i, m_lt_i, m_le_i, m_le_s, c_is_n, c_isn_n, c_is_b, c_isn_b, is_n, is_i, is_s, is_b, is_t, is_r, c_in_c, c_nin_c, l_t, i_i, o_c, ix_t, ty_n, ty_b, ty_i, ty_s, ty_t, isinM, asgC, setAll, List.map_cons, List.map_nil, List.cons_append, List.nil_append, List.length_cons, List.length_nil, List.replicate_succ, List.replicate_zero, List.getElem?_cons_zero, List.getElem?_cons_succ, List.getElem?_nil, List.set_cons_zero, List.set_cons_succ, if_true, if_false, Bool.not_true, Bool.not_false, Bool.false_eq_true, Option.map_some, Option.map_none, List.any_cons, List.any_nil, Bool.or_false, Bool.false_or, Bool.or_true, Bool.true_or, Bool.and_true, Bool.true_and, Bool.false_and, Bool.and_false, beq_self_eq_true, String.reduceBEq, decide_true, decide_false, Nat.reduceAdd, Nat.reduceSub, Nat.zero_add, Int.natAbs_natCast, and_self, true_and, and_true, List.isEmpty_cons, List.isEmpty_nil, Option.isSome_some, Option.isSome_none, List.append_nil, it_s (show s.length ≤ lim by unfold lim; omega)]) rfl (by simpa using hl) at_seq (by
    intro x hx
    obtain ⟨c, hcm, rfl⟩ := List.mem_map.mp hx
    obtain ⟨p1, p2, p3⟩ := hc c hcm
    refine ⟨[some (.str s), some (.str [c])], rfl, fun H _ => ⟨false, [], ?_, (fun hb => by cases hb), (fun _ => rfl)⟩⟩
    have q1 : ¬ ([c] : List Nat) = [63] := by simpa using p3
    have q2 : ¬ ([c] : List Nat) = [10] := by simp; omega
    have q3 : ¬ ([c] : List Nat) < [32] := by rw [lt1]; omega
    have q4 : ¬ ([126] : List Nat) < [c] := by rw [lt1]; omega
    simp only [evB, evS, evE, evT, evEs, evBo, evBoT, evIfC, evP, evI, bind_ok, bind_ex, bind_err, then_ok, then_ex, then_err, opt_some, opt_none, gd_f, gd_ok, t_non, t_bl, t_int, t_tup, b_ii, b_sub, c_eq_i, c_ne_i, c_eq_s, c_ne_s, c_eq_b, c_ne_b, c_lt_i, c_gt_i, c_le_i, c_ge_i, m_lt_i, m_le_i, m_le_s, c_is_n, c_isn_n, c_is_b, c_isn_b, is_n, is_i, is_s, is_b, is_t, is_r, c_in_c, c_nin_c, l_t, i_i, o_c, ix_t, ty_n, ty_b, ty_i, ty_s, ty_t, isinM, asgC, setAll, List.map_cons, List.map_nil, List.cons_append, List.nil_append, List.length_cons, List.length_nil, List.replicate_succ, List.replicate_zero, List.getElem?_cons_zero, List.getElem?_cons_succ, List.getElem?_nil, List.set_cons_zero, List.set_cons_succ, if_true, if_false, Bool.not_true, Bool.not_false, Bool.false_eq_true, Option.map_some, Option.map_none, List.any_cons, List.any_nil, Bool.or_false, Bool.false_or, Bool.or_true, Bool.true_or, Bool.and_true, Bool.true_and, Bool.false_and, Bool.and_false, beq_self_eq_true, String.reduceBEq, decide_true, decide_false, Nat.reduceAdd, Nat.reduceSub, Nat.zero_add, Int.natAbs_natCast, and_self, true_and, and_true, List.isEmpty_cons, List.isEmpty_nil, Option.isSome_some, Option.isSome_none, List.append_nil, q1, q2, q3, q4])
  have en : (s.map fun c => MV.str [c]).filterMap (fun x => (none : Option MV)) = [] := by simp
  rw [en] at e
  have d : decide ((1000000 : Int) < (s.length : Int)) = false := by simp; omega
  refine ⟨MO.lst [] :: g, ?_⟩
  · rw [call_res (k := 2) (b := c2) rfl]
    unfold c2
    generalize (CE.lc (.v 1) (.one 1) 0 [.v 0] [.tbo .Or [.tcmp .Eq (.v 1) (.k (.str [63])), .tbo .And [.tcmp .NotEq (.v 1) (.k (.str [10])), .tnot (.tch .LtE .LtE (.k (.str [32])) (.v 1) (.k (.str [126])))]]] [1]) = N at e ⊢
    simp only [evB, evS, evE, evT, evEs, evBo, evBoT, evIfC, evP, evI, bind_ok, bind_ex, bind_err, then_ok, then_ex, then_err, opt_some, opt_none, gd_f, gd_ok, t_non, t_bl, t_int, t_tup, b_ii, b_sub, c_eq_i, c_ne_i, c_eq_s, c_ne_s, c_eq_b, c_ne_b, c_lt_i, c_gt_i, c_le_i, c_ge_i, m_lt_i, m_le_i, m_le_s, c_is_n, c_isn_n, c_is_b, c_isn_b, is_n, is_i, is_s, is_b, is_t, is_r, c_in_c, c_nin_c, l_t, i_i, o_c, ix_t, ty_n, ty_b, ty_i, ty_s, ty_t, isinM, asgC, setAll, List.map_cons, List.map_nil, List.cons_append, List.nil_append, List.length_cons, List.length_nil, List.replicate_succ, List.replicate_zero, List.getElem?_cons_zero, List.getElem?_cons_succ, List.getElem?_nil, List.set_cons_zero, List.set_cons_succ, if_true, if_false, Bool.not_true, Bool.not_false, Bool.false_eq_true, Option.map_some, Option.map_none, List.any_cons, List.any_nil, Bool.or_false, Bool.false_or, Bool.or_true, Bool.true_or, Bool.and_true, Bool.true_and, Bool.false_and, Bool.and_false, beq_self_eq_true, String.reduceBEq, decide_true, decide_false, Nat.reduceAdd, Nat.reduceSub, Nat.zero_add, Int.natAbs_natCast, and_self, true_and, and_true, List.isEmpty_cons, List.isEmpty_nil, Option.isSome_some, Option.isSome_none, List.append_nil, l_s (show s.length ≤ lim by unfold lim; omega), d, e, t_lst get_mid, resOf]
def frameT (s : List Nat) : List Nat := numL s.length ++ [58] ++ numL (chk s) ++ [58] ++ s ++ [10]
theorem numL7 {n : Nat} (h : n < 10000000) : (numL n).length ≤ 7 := TL.numL_len (by decide) (by simpa using h)
theorem strN {k : Nat} {h : MH} (hk : k < 10000000) : bltM .str h [.int k] = .ok (.str (numL k)) h := by
  have hlog : k.log2 < 1920 := by
    by_cases h0 : k = 0
    · subst h0; decide
    · have := (Nat.log2_lt (n := k) (k := 24) h0).mpr (by omega)
      omega
  rw [s_i (show (k : Int).natAbs.log2 < 1920 from hlog), tl_int]
theorem r3 (n : Nat) (s : List Nat) (h : MH) (hl : s.length < 100) (hc : ∀ c ∈ s, plainC c) : ∃ g, cc (n + 2) 3 [.str s] h = .ok (.str (frameT s)) (h ++ g) := by
  obtain ⟨g, e⟩ := r2 n s h (by omega) hc
  have e1 := r1 n s (h ++ g) (by omega)
  have lc := chk_lt s
  have l1 := numL7 (n := s.length) (by omega)
  have l2 := numL7 (n := chk s) (by omega)
  have b1 : binM .Add (h ++ g) (.str (numL s.length)) (.str [58]) = .ok (.str (numL s.length ++ [58])) (h ++ g) := b_lim (by simp; omega)
  have b2 : binM .Add (h ++ g) (.str (numL s.length ++ [58])) (.str (numL (chk s))) = .ok (.str (numL s.length ++ [58] ++ numL (chk s))) (h ++ g) := b_lim (by simp; omega)
  have b3 : binM .Add (h ++ g) (.str (numL s.length ++ [58] ++ numL (chk s))) (.str [58]) = .ok (.str (numL s.length ++ [58] ++ numL (chk s) ++ [58])) (h ++ g) := b_lim (by simp; omega)
  have b4 : binM .Add (h ++ g) (.str (numL s.length ++ [58] ++ numL (chk s) ++ [58])) (.str s) = .ok (.str (numL s.length ++ [58] ++ numL (chk s) ++ [58] ++ s)) (h ++ g) := b_lim (by simp; omega)
  have b5 : binM .Add (h ++ g) (.str (numL s.length ++ [58] ++ numL (chk s) ++ [58] ++ s)) (.str [10]) = .ok (.str (frameT s)) (h ++ g) := b_lim (by simp; omega)
  refine ⟨g, ?_⟩
  rw [call_res (k := 1) (b := c3) rfl]
  unfold c3
  simp only [evB, evS, evE, evT, evEs, evBo, evBoT, evIfC, evP, evI, bind_ok, bind_ex, bind_err, then_ok, then_ex, then_err, opt_some, opt_none, gd_f, gd_ok, t_non, t_bl, t_int, t_tup, b_ii, b_sub, c_eq_i, c_ne_i, c_eq_s, c_ne_s, c_eq_b, c_ne_b, c_lt_i, c_gt_i, c_le_i, c_ge_i, m_lt_i, m_le_i, m_le_s, c_is_n, c_isn_n, c_is_b, c_isn_b, is_n, is_i, is_s, is_b, is_t, is_r, c_in_c, c_nin_c, l_t, i_i, o_c, ix_t, ty_n, ty_b, ty_i, ty_s, ty_t, isinM, asgC, setAll, List.map_cons, List.map_nil, List.cons_append, List.nil_append, List.length_cons, List.length_nil, List.replicate_succ, List.replicate_zero, List.getElem?_cons_zero, List.getElem?_cons_succ, List.getElem?_nil, List.set_cons_zero, List.set_cons_succ, if_true, if_false, Bool.not_true, Bool.not_false, Bool.false_eq_true, Option.map_some, Option.map_none, List.any_cons, List.any_nil, Bool.or_false, Bool.false_or, Bool.or_true, Bool.true_or, Bool.and_true, Bool.true_and, Bool.false_and, Bool.and_false, beq_self_eq_true, String.reduceBEq, decide_true, decide_false, Nat.reduceAdd, Nat.reduceSub, Nat.zero_add, Int.natAbs_natCast, and_self, true_and, and_true, List.isEmpty_cons, List.isEmpty_nil, Option.isSome_some, Option.isSome_none, List.append_nil, e, l_s (show s.length ≤ lim by unfold lim; omega), strN (k := s.length) (by omega), b1, e1, strN (k := chk s) (by omega), b2, b3, b4, b5, resOf]
end Pg
end

section
set_option linter.all false
set_option maxRecDepth 100000
set_option maxHeartbeats 1000000
namespace Pg
open PySem PySem.Spec L2 Mn
open TL (numL)
/-! ### frames read -/
theorem from_nat (len k : Nat) : fromIndex len (k : Int) = k := by
  unfold fromIndex
  rw [if_neg (by omega)]
  omega
theorem getD_l (l : List Nat) (k : Nat) : (l.toArray).getD k 0 = (l[k]?).getD 0 := by simp
theorem find_hit {A p R : List Nat} {c : Nat} (hp : c ∉ p) : Txt.find3 ⟨(A ++ p ++ c :: R).toArray⟩ ⟨[c].toArray⟩ (A.length : Int) = ((A.length + p.length : Nat) : Int) := by
  have hat : (A ++ p ++ c :: R)[A.length + p.length]? = some c := by
    rw [List.getElem?_append_right (by simp)]
    simp
  have hlen : ((⟨(A ++ p ++ c :: R).toArray⟩ : Str)).length = A.length + p.length + (R.length + 1) := by
    show (A ++ p ++ c :: R).toArray.size = _
    simp; omega
  rcases StrLaws.find3_spec ⟨(A ++ p ++ c :: R).toArray⟩ c (A.length : Int) with ⟨h1, h2⟩ | ⟨k, h1, h2, h3, h4, h5⟩
  · exfalso
    refine h2 (A.length + p.length) (by rw [from_nat]; omega) (by rw [hlen]; omega) ?_
    show (A ++ p ++ c :: R).toArray.getD _ 0 = c
    rw [getD_l, hat]
    rfl
  · have e : k = A.length + p.length := by
      rw [from_nat] at h2 h5
      by_cases hk : k < A.length + p.length
      · exfalso
        have h4 : (A ++ p ++ c :: R).toArray.getD k 0 = c := h4
        rw [getD_l, List.getElem?_append_left (by simp; omega), List.getElem?_append_right h2] at h4
        rw [List.getElem?_eq_getElem (by omega)] at h4
        exact hp (h4 ▸ List.getElem_mem _)
      · by_cases hk2 : A.length + p.length < k
        · exfalso
          refine h5 (A.length + p.length) (by omega) hk2 ?_
          show (A ++ p ++ c :: R).toArray.getD _ 0 = c
          rw [getD_l, hat]
          rfl
        · omega
    rw [← e]
    exact h1
theorem find_end {s : List Nat} {c : Nat} : Txt.find3 ⟨s.toArray⟩ ⟨[c].toArray⟩ (s.length : Int) = -1 := by
  have hlen : ((⟨s.toArray⟩ : Str)).length = s.length := by
    show s.toArray.size = _
    simp
  rcases StrLaws.find3_spec ⟨s.toArray⟩ c (s.length : Int) with ⟨h1, h2⟩ | ⟨k, h1, h2, h3, h4, h5⟩
  · exact h1
  · rw [from_nat] at h2
    rw [hlen] at h3
    omega
theorem cut_mid {α : Type} (A p R : List α) (b : Int) (hb : b = ((A.length + p.length : Nat) : Int)) : cutL (A ++ p ++ R) (some (A.length : Int)) (some b) = p := by
  subst hb
  unfold cutL
  rw [HT.sIx_nat, HT.sIx_nat]
  rw [Nat.min_eq_left (by simp), Nat.min_eq_left (by simp)]
  rw [List.append_assoc, List.drop_left]
  rw [show A.length + p.length - A.length = p.length by omega, List.take_left]
theorem mt_find {h : MH} {s t : List Nat} {i : Int} : mtS .find h s [.str t, .int i] = .ok (.int (Txt.find3 ⟨s.toArray⟩ ⟨t.toArray⟩ i)) h := rfl
theorem num_head : ∀ v : Nat, 1 ≤ v → ∃ c r, numL v = c :: r ∧ c ≠ 48 := by
  intro v
  induction v using Nat.strongRecOn with
  | _ v ih =>
    intro h1
    by_cases h : v < 10
    · exact ⟨48 + v, [], TL.numL_lt h, by omega⟩
    · obtain ⟨c, r, e, hc⟩ := ih (v / 10) (by omega) (by omega)
      exact ⟨c, r ++ [48 + v % 10], by rw [TL.numL_step (by omega), e]; rfl, hc⟩
def hdE : CE := .tbo .And [.tcmp .Gt (.blt .len [.v 3]) (.k (.int 1)), .tcmp .Eq (.ix (.v 3) (.k (.int 0))) (.k (.str [48]))]
theorem head0 (C : CallS) {a b c d : Option MV} {v : Nat} {h : MH} (hv : v < 10000000) : evT gs C hdE [a, b, c, some (.str (numL v)), d] h = .ok false h := by
  have l := numL7 hv
  by_cases h0 : v = 0
  · subst h0
    have e : numL 0 = [48] := TL.numL_lt (by decide)
    have d1 : ¬ ((1 : Int) < ((([48] : List Nat).length : Nat) : Int)) := by decide
    have ll : bltM .len h [.str [48]] = .ok (.int 1) h := by rw [l_s (by decide)]; rfl
    unfold hdE
    simp only [evB, evS, evE, evT, evEs, evBo, evBoT, evIfC, evP, evI, bind_ok, bind_ex, bind_err, then_ok, then_ex, then_err, opt_some, opt_none, gd_f, gd_ok, t_non, t_bl, t_int, t_tup, b_ii, b_sub, c_eq_i, c_ne_i, c_eq_s, c_ne_s, c_eq_b, c_ne_b, c_lt_i, c_gt_i, c_le_i, c_ge_i, m_lt_i, m_le_i, m_le_s, c_is_n, c_isn_n, c_is_b, c_isn_b, is_n, is_i, is_s, is_b, is_t, is_r, c_in_c, c_nin_c, l_t, i_i, o_c, ix_t, ty_n, ty_b, ty_i, ty_s, ty_t, isinM, asgC, setAll, List.map_cons, List.map_nil, List.cons_append, List.nil_append, List.length_cons, List.length_nil, List.replicate_succ, List.replicate_zero, List.getElem?_cons_zero, List.getElem?_cons_succ, List.getElem?_nil, List.set_cons_zero, List.set_cons_succ, if_true, if_false, Bool.not_true, Bool.not_false, Bool.false_eq_true, Option.map_some, Option.map_none, List.any_cons, List.any_nil, Bool.or_false, Bool.false_or, Bool.or_true, Bool.true_or, Bool.and_true, Bool.true_and, Bool.false_and, Bool.and_false, beq_self_eq_true, String.reduceBEq, decide_true, decide_false, Nat.reduceAdd, Nat.reduceSub, Nat.zero_add, Int.natAbs_natCast, and_self, true_and, and_true, List.isEmpty_cons, List.isEmpty_nil, Option.isSome_some, Option.isSome_none, List.append_nil, e, ll, Int.lt_irrefl]
  · obtain ⟨x, r, e, hx⟩ := num_head v (by omega)
    have a0 : atI (x :: r) 0 = some x := Mn.atI_nat (n := 0) rfl
    have nx : ¬ ([x] : List Nat) = [48] := by simpa using hx
    rw [e] at l ⊢
    have ll : (x :: r).length ≤ lim := by unfold lim; omega
    unfold hdE
    by_cases hl : (1 : Int) < (((x :: r).length : Nat) : Int)
    · have dl : decide ((1 : Int) < (((x :: r).length : Nat) : Int)) = true := by simpa using hl
      have lx : bltM .len h [.str (x :: r)] = .ok (.int (((x :: r).length : Nat) : Int)) h := l_s ll
      generalize (((x :: r).length : Nat) : Int) = K at lx dl
      simp only [evB, evS, evE, evT, evEs, evBo, evBoT, evIfC, evP, evI, bind_ok, bind_ex, bind_err, then_ok, then_ex, then_err, opt_some, opt_none, gd_f, gd_ok, t_non, t_bl, t_int, t_tup, b_ii, b_sub, c_eq_i, c_ne_i, c_eq_s, c_ne_s, c_eq_b, c_ne_b, c_lt_i, c_gt_i, c_le_i, c_ge_i, m_lt_i, m_le_i, m_le_s, c_is_n, c_isn_n, c_is_b, c_isn_b, is_n, is_i, is_s, is_b, is_t, is_r, c_in_c, c_nin_c, l_t, i_i, o_c, ix_t, ty_n, ty_b, ty_i, ty_s, ty_t, isinM, asgC, setAll, List.map_cons, List.map_nil, List.cons_append, List.nil_append, List.length_cons, List.length_nil, List.replicate_succ, List.replicate_zero, List.getElem?_cons_zero, List.getElem?_cons_succ, List.getElem?_nil, List.set_cons_zero, List.set_cons_succ, if_true, if_false, Bool.not_true, Bool.not_false, Bool.false_eq_true, Option.map_some, Option.map_none, List.any_cons, List.any_nil, Bool.or_false, Bool.false_or, Bool.or_true, Bool.true_or, Bool.and_true, Bool.true_and, Bool.false_and, Bool.and_false, beq_self_eq_true, String.reduceBEq, decide_true, decide_false, Nat.reduceAdd, Nat.reduceSub, Nat.zero_add, Int.natAbs_natCast, and_self, true_and, and_true, List.isEmpty_cons, List.isEmpty_nil, Option.isSome_some, Option.isSome_none, List.append_nil, lx, dl, ix_s ll, a0, nx]
    · have dl : decide ((1 : Int) < (((x :: r).length : Nat) : Int)) = false := by simpa using hl
      have lx : bltM .len h [.str (x :: r)] = .ok (.int (((x :: r).length : Nat) : Int)) h := l_s ll
      generalize (((x :: r).length : Nat) : Int) = K at lx dl
      simp only [evB, evS, evE, evT, evEs, evBo, evBoT, evIfC, evP, evI, bind_ok, bind_ex, bind_err, then_ok, then_ex, then_err, opt_some, opt_none, gd_f, gd_ok, t_non, t_bl, t_int, t_tup, b_ii, b_sub, c_eq_i, c_ne_i, c_eq_s, c_ne_s, c_eq_b, c_ne_b, c_lt_i, c_gt_i, c_le_i, c_ge_i, m_lt_i, m_le_i, m_le_s, c_is_n, c_isn_n, c_is_b, c_isn_b, is_n, is_i, is_s, is_b, is_t, is_r, c_in_c, c_nin_c, l_t, i_i, o_c, ix_t, ty_n, ty_b, ty_i, ty_s, ty_t, isinM, asgC, setAll, List.map_cons, List.map_nil, List.cons_append, List.nil_append, List.length_cons, List.length_nil, List.replicate_succ, List.replicate_zero, List.getElem?_cons_zero, List.getElem?_cons_succ, List.getElem?_nil, List.set_cons_zero, List.set_cons_succ, if_true, if_false, Bool.not_true, Bool.not_false, Bool.false_eq_true, Option.map_some, Option.map_none, List.any_cons, List.any_nil, Bool.or_false, Bool.false_or, Bool.or_true, Bool.true_or, Bool.and_true, Bool.true_and, Bool.false_and, Bool.and_false, beq_self_eq_true, String.reduceBEq, decide_true, decide_false, Nat.reduceAdd, Nat.reduceSub, Nat.zero_add, Int.natAbs_natCast, and_self, true_and, and_true, List.isEmpty_cons, List.isEmpty_nil, Option.isSome_some, Option.isSome_none, List.append_nil, lx, dl]
theorem r4 (n : Nat) (A R : List Nat) (v : Nat) (h : MH) (hv : v < 10000000) (hl : (A ++ numL v ++ 58 :: R).length < 1000) :
    ∃ g, cc (n + 1) 4 [.str (A ++ numL v ++ 58 :: R), .int (A.length : Nat)] h = .ok (.tup [.int v, .int ((A.length + (numL v).length : Nat) + 1)]) (h ++ g) := by
  have l7 := numL7 hv
  have hf := find_hit (A := A) (p := numL v) (R := R) (c := 58) (TL.numL_free (.inr (by decide)))
  have hc := cut_mid A (numL v) (58 :: R) _ rfl
  have hne : ¬ numL v = [] := TL.numL_ne v
  have l1 : 1 ≤ (numL v).length := by
    cases hq : numL v with
    | nil => exact absurd hq hne
    | cons a b => simp
  have d1 : decide (((A.length : Nat) : Int) < ((A.length + (numL v).length : Nat) : Int)) = true := by simp; omega
  have d2 : (!decide (((A.length : Nat) : Int) + 7 < ((A.length + (numL v).length : Nat) : Int))) = true := by simp; omega
  obtain ⟨g, e⟩ := chr_ev (cc n) [48, 49, 50, 51, 52, 53, 54, 55, 56, 57] (j := 4) (es := [.v 3]) (own := [4]) (sm := [some (.str (A ++ numL v ++ 58 :: R)), some (.int (A.length : Nat)), some (.int ((A.length + (numL v).length : Nat) : Int)), some (.str (numL v)), none]) (h := h) (s := numL v) (by
      simp only [evB, evS, evE, evT, evEs, evBo, evBoT, evIfC, evP, evI, bind_ok, bind_ex, bind_err, then_ok, then_ex, then_err, opt_some, opt_none, gd_f, gd_ok, t_non, t_bl, t_int, t_tup, b_ii, b_sub, c_eq_i, c_ne_i, c_eq_s, c_ne_s, c_eq_b, c_ne_b, c_lt_i, c_gt_i, c_le_i, c_ge_i, m_lt_i, m_le_i, m_le_s, c_is_n, c_isn_n, c_is_b, c_isn_b, is_n, is_i, is_s, is_b, is_t, is_r, c_in_c, c_nin_c, l_t, i_i, o_c, ix_t, ty_n, ty_b, ty_i, ty_s, ty_t, isinM, asgC, setAll, List.map_cons, List.map_nil, List.cons_append, List.nil_append, List.length_cons, List.length_nil, List.replicate_succ, List.replicate_zero, List.getElem?_cons_zero, List.getElem?_cons_succ, List.getElem?_nil, List.set_cons_zero, List.set_cons_succ, if_true, if_false, Bool.not_true, Bool.not_false, Bool.false_eq_true, Option.map_some, Option.map_none, List.any_cons, List.any_nil, Bool.or_false, Bool.false_or, Bool.or_true, Bool.true_or, Bool.and_true, Bool.true_and, Bool.false_and, Bool.and_false, beq_self_eq_true, String.reduceBEq, decide_true, decide_false, Nat.reduceAdd, Nat.reduceSub, Nat.zero_add, Int.natAbs_natCast, and_self, true_and, and_true, List.isEmpty_cons, List.isEmpty_nil, Option.isSome_some, Option.isSome_none, List.append_nil, it_s (show (numL v).length ≤ lim by unfold lim; omega)]) (by omega) (by simp [wipeM])
  have all : ((numL v).all fun c => decide (c ∈ [48, 49, 50, 51, 52, 53, 54, 55, 56, 57])) = true := by
    rw [List.all_eq_true]
    intro c hc
    have := TL.numL_digits v c hc
    simp
    omega
  rw [all] at e
  have hd := head0 (cc n) (a := some (.str (A ++ numL v ++ 58 :: R))) (b := some (.int (A.length : Nat))) (c := some (.int ((A.length + (numL v).length : Nat) : Int))) (d := none) (h := h ++ g) hv
  have ei := int_digits (TL.numL_digits v) hne (by omega)
  rw [TL.numL_val] at ei
  refine ⟨g, ?_⟩
  rw [call_res (k := 5) (b := c4) rfl]
  unfold c4
  unfold hdE at hd
  generalize (CE.tbo .And [.tcmp .Gt (.blt .len [.v 3]) (.k (.int 1)), .tcmp .Eq (.ix (.v 3) (.k (.int 0))) (.k (.str [48]))]) = N1 at hd ⊢
  generalize (CE.tv (.lc (.v 4) (.one 4) 0 [.v 3] [.tcmp .NotIn (.v 4) (.k (.str [48, 49, 50, 51, 52, 53, 54, 55, 56, 57]))] [4])) = N2 at e ⊢
  generalize ((A.length + (numL v).length : Nat) : Int) = B at *
  generalize ((A.length : Nat) : Int) = D at *
  generalize A ++ numL v ++ 58 :: R = tx at *
  have l2 : (2 : Nat) ≤ lim := by unfold lim; omega
  simp only [evB, evS, evE, evT, evEs, evBo, evBoT, evIfC, evP, evI, bind_ok, bind_ex, bind_err, then_ok, then_ex, then_err, opt_some, opt_none, gd_f, gd_ok, t_non, t_bl, t_int, t_tup, b_ii, b_sub, c_eq_i, c_ne_i, c_eq_s, c_ne_s, c_eq_b, c_ne_b, c_lt_i, c_gt_i, c_le_i, c_ge_i, m_lt_i, m_le_i, m_le_s, c_is_n, c_isn_n, c_is_b, c_isn_b, is_n, is_i, is_s, is_b, is_t, is_r, c_in_c, c_nin_c, l_t, i_i, o_c, ix_t, ty_n, ty_b, ty_i, ty_s, ty_t, isinM, asgC, setAll, List.map_cons, List.map_nil, List.cons_append, List.nil_append, List.length_cons, List.length_nil, List.replicate_succ, List.replicate_zero, List.getElem?_cons_zero, List.getElem?_cons_succ, List.getElem?_nil, List.set_cons_zero, List.set_cons_succ, if_true, if_false, Bool.not_true, Bool.not_false, Bool.false_eq_true, Option.map_some, Option.map_none, List.any_cons, List.any_nil, Bool.or_false, Bool.false_or, Bool.or_true, Bool.true_or, Bool.and_true, Bool.true_and, Bool.false_and, Bool.and_false, beq_self_eq_true, String.reduceBEq, decide_true, decide_false, Nat.reduceAdd, Nat.reduceSub, Nat.zero_add, Int.natAbs_natCast, and_self, true_and, and_true, List.isEmpty_cons, List.isEmpty_nil, Option.isSome_some, Option.isSome_none, List.append_nil, mt_find, hf, d1, d2, sl_s (show tx.length ≤ lim by unfold lim; omega), hc, hne, e, hd, i_s (show (numL v).length ≤ 640 by omega) ei, l2, resOf]
theorem r4e (n : Nat) (s : List Nat) (h : MH) : cc (n + 1) 4 [.str s, .int (s.length : Nat)] h = .ok .non h := by
  have hf := find_end (s := s) (c := 58)
  have d1 : decide (((s.length : Nat) : Int) < -1) = false := by simp only [decide_eq_false_iff_not]; omega
  rw [call_res (k := 5) (b := c4) rfl]
  unfold c4
  generalize (CE.tv (.lc (.v 4) (.one 4) 0 [.v 3] [.tcmp .NotIn (.v 4) (.k (.str [48, 49, 50, 51, 52, 53, 54, 55, 56, 57]))] [4])) = N2
  generalize ((s.length : Nat) : Int) = D at *
  simp only [evB, evS, evE, evT, evEs, evBo, evBoT, evIfC, evP, evI, bind_ok, bind_ex, bind_err, then_ok, then_ex, then_err, opt_some, opt_none, gd_f, gd_ok, t_non, t_bl, t_int, t_tup, b_ii, b_sub, c_eq_i, c_ne_i, c_eq_s, c_ne_s, c_eq_b, c_ne_b, c_lt_i, c_gt_i, c_le_i, c_ge_i, m_lt_i, m_le_i, m_le_s, c_is_n, c_isn_n, c_is_b, c_isn_b, is_n, is_i, is_s, is_b, is_t, is_r, c_in_c, c_nin_c, l_t, i_i, o_c, ix_t, ty_n, ty_b, ty_i, ty_s, ty_t, isinM, asgC, setAll, List.map_cons, List.map_nil, List.cons_append, List.nil_append, List.length_cons, List.length_nil, List.replicate_succ, List.replicate_zero, List.getElem?_cons_zero, List.getElem?_cons_succ, List.getElem?_nil, List.set_cons_zero, List.set_cons_succ, if_true, if_false, Bool.not_true, Bool.not_false, Bool.false_eq_true, Option.map_some, Option.map_none, List.any_cons, List.any_nil, Bool.or_false, Bool.false_or, Bool.or_true, Bool.true_or, Bool.and_true, Bool.true_and, Bool.false_and, Bool.and_false, beq_self_eq_true, String.reduceBEq, decide_true, decide_false, Nat.reduceAdd, Nat.reduceSub, Nat.zero_add, Int.natAbs_natCast, and_self, true_and, and_true, List.isEmpty_cons, List.isEmpty_nil, Option.isSome_some, Option.isSome_none, List.append_nil, mt_find, hf, d1, resOf]
end Pg
end

section
set_option linter.all false
set_option maxRecDepth 100000
set_option maxHeartbeats 1000000
namespace Pg
open PySem PySem.Spec L2 Mn
open TL (numL)
def fr1 (s : List Nat) : List Nat := numL s.length ++ [58]
def fr2 (s : List Nat) : List Nat := fr1 s ++ numL (chk s) ++ [58]
theorem frame_a (s : List Nat) : frameT s = [] ++ numL s.length ++ 58 :: (numL (chk s) ++ [58] ++ s ++ [10]) := by simp [frameT]
theorem frame_b (s : List Nat) : frameT s = fr1 s ++ numL (chk s) ++ 58 :: (s ++ [10]) := by simp [frameT, fr1]
theorem frame_c (s : List Nat) : frameT s = fr2 s ++ s ++ [10] := by simp [frameT, fr1, fr2]
theorem frame_d (s : List Nat) : frameT s = (fr2 s ++ s) ++ [10] ++ [] := by simp [frameT, fr1, fr2]
theorem frame_len (s : List Nat) (hl : s.length < 100) : (frameT s).length < 200 ∧ (frameT s).length = (fr2 s).length + s.length + 1 ∧ (fr1 s).length = (numL s.length).length + 1 ∧ (fr2 s).length = (fr1 s).length + (numL (chk s)).length + 1 := by
  have l1 := numL7 (n := s.length) (by omega)
  have l2 := numL7 (n := chk s) (by have := chk_lt s; omega)
  simp [frameT, fr1, fr2]
  omega
theorem r5 (n : Nat) (s : List Nat) (h : MH) (hl : s.length < 100) (hc : 63 ∉ s) : ∃ g, cc (n + 2) 5 [.str (frameT s), .int 0] h = .ok (.tup [.str s, .int ((frameT s).length : Nat)]) (h ++ g) := by
  obtain ⟨f1, f2, f3, f4⟩ := frame_len s hl
  have lc := chk_lt s
  have e1 : ∃ g1, cc (n + 1) 4 [.str (frameT s), .int 0] h = .ok (.tup [.int (s.length : Nat), .int ((fr1 s).length : Nat)]) (h ++ g1) := by
    obtain ⟨g1, e⟩ := r4 n [] (numL (chk s) ++ [58] ++ s ++ [10]) s.length h (by omega) (by rw [← frame_a]; omega)
    rw [← frame_a] at e
    refine ⟨g1, e.trans ?_⟩
    congr 5
    rw [f3]
    simp
  obtain ⟨g1, e1⟩ := e1
  have e2 : ∃ g2, cc (n + 1) 4 [.str (frameT s), .int ((fr1 s).length : Nat)] (h ++ g1) = .ok (.tup [.int (chk s : Nat), .int ((fr2 s).length : Nat)]) (h ++ g1 ++ g2) := by
    obtain ⟨g2, e⟩ := r4 n (fr1 s) (s ++ [10]) (chk s) (h ++ g1) (by omega) (by rw [← frame_b]; omega)
    rw [← frame_b] at e
    refine ⟨g2, e.trans ?_⟩
    congr 5
    rw [f4]
    simp
  obtain ⟨g2, e2⟩ := e2
  have c1 : cutL (frameT s) (some ((fr2 s).length : Int)) (some (((fr2 s).length : Nat) + (s.length : Nat) : Int)) = s := by
    have := cut_mid (fr2 s) s [10] (((fr2 s).length : Nat) + (s.length : Nat) : Int) (by simp)
    rw [← frame_c] at this
    exact this
  have c2 : cutL (frameT s) (some (((fr2 s).length : Nat) + (s.length : Nat) : Int)) (some (((fr2 s).length : Nat) + (s.length : Nat) + 1 : Int)) = [10] := by
    have := cut_mid (fr2 s ++ s) [10] [] (((fr2 s).length : Nat) + (s.length : Nat) + 1 : Int) (by simp)
    rw [← frame_d] at this
    rw [← this]
    simp
  have r1' := r1 n s (h ++ g1 ++ g2) (by omega)
  have dm : decide ((1000000 : Int) < (s.length : Nat)) = false := by simp only [decide_eq_false_iff_not]; omega
  have dq : decide (63 ∈ s) = false := by simp [hc]
  have t0 : ∀ x y : MV, atI [x, y] 0 = some x := fun _ _ => rfl
  have t1 : ∀ x y : MV, atI [x, y] 1 = some y := fun _ _ => rfl
  have lF : (frameT s).length ≤ lim := by unfold lim; omega
  have ls : bltM .len (h ++ g1 ++ g2) [.str s] = .ok (.int (s.length : Nat)) (h ++ g1 ++ g2) := l_s (by unfold lim; omega)
  have en : (((fr2 s).length : Nat) + (s.length : Nat) + 1 : Int) = ((frameT s).length : Nat) := by rw [f2]; simp
  have l2 : (2 : Nat) ≤ lim := by unfold lim; omega
  refine ⟨g1 ++ g2, ?_⟩
  rw [← List.append_assoc]
  rw [call_res (k := 7) (b := c5) rfl]
  unfold c5
  generalize (((fr2 s).length : Nat) : Int) = P2 at *
  generalize (((fr1 s).length : Nat) : Int) = P1 at *
  generalize ((s.length : Nat) : Int) = SL at *
  generalize ((chk s : Nat) : Int) = CK at *
  generalize (((frameT s).length : Nat) : Int) = FL at *
  generalize frameT s = F at *
  rw [en] at c2
  simp only [evB, evS, evE, evT, evEs, evBo, evBoT, evIfC, evP, evI, bind_ok, bind_ex, bind_err, then_ok, then_ex, then_err, opt_some, opt_none, gd_f, gd_ok, t_non, t_bl, t_int, t_tup, b_ii, b_sub, c_eq_i, c_ne_i, c_eq_s, c_ne_s, c_eq_b, c_ne_b, c_lt_i, c_gt_i, c_le_i, c_ge_i, m_lt_i, m_le_i, m_le_s, c_is_n, c_isn_n, c_is_b, c_isn_b, is_n, is_i, is_s, is_b, is_t, is_r, c_in_c, c_nin_c, l_t, i_i, o_c, ix_t, ty_n, ty_b, ty_i, ty_s, ty_t, isinM, asgC, setAll, List.map_cons, List.map_nil, List.cons_append, List.nil_append, List.length_cons, List.length_nil, List.replicate_succ, List.replicate_zero, List.getElem?_cons_zero, List.getElem?_cons_succ, List.getElem?_nil, List.set_cons_zero, List.set_cons_succ, if_true, if_false, Bool.not_true, Bool.not_false, Bool.false_eq_true, Option.map_some, Option.map_none, List.any_cons, List.any_nil, Bool.or_false, Bool.false_or, Bool.or_true, Bool.true_or, Bool.and_true, Bool.true_and, Bool.false_and, Bool.and_false, beq_self_eq_true, String.reduceBEq, decide_true, decide_false, Nat.reduceAdd, Nat.reduceSub, Nat.zero_add, Int.natAbs_natCast, and_self, true_and, and_true, List.isEmpty_cons, List.isEmpty_nil, Option.isSome_some, Option.isSome_none, List.append_nil, e1, t0, t1, e2, dm, sl_s lF, c1, ls, c2, dq, r1', en, l2, resOf]
theorem r5e (n : Nat) (s : List Nat) (h : MH) : cc (n + 2) 5 [.str s, .int (s.length : Nat)] h = .ok .non h := by
  have e := r4e n s h
  rw [call_res (k := 7) (b := c5) rfl]
  unfold c5
  generalize ((s.length : Nat) : Int) = D at *
  simp only [evB, evS, evE, evT, evEs, evBo, evBoT, evIfC, evP, evI, bind_ok, bind_ex, bind_err, then_ok, then_ex, then_err, opt_some, opt_none, gd_f, gd_ok, t_non, t_bl, t_int, t_tup, b_ii, b_sub, c_eq_i, c_ne_i, c_eq_s, c_ne_s, c_eq_b, c_ne_b, c_lt_i, c_gt_i, c_le_i, c_ge_i, m_lt_i, m_le_i, m_le_s, c_is_n, c_isn_n, c_is_b, c_isn_b, is_n, is_i, is_s, is_b, is_t, is_r, c_in_c, c_nin_c, l_t, i_i, o_c, ix_t, ty_n, ty_b, ty_i, ty_s, ty_t, isinM, asgC, setAll, List.map_cons, List.map_nil, List.cons_append, List.nil_append, List.length_cons, List.length_nil, List.replicate_succ, List.replicate_zero, List.getElem?_cons_zero, List.getElem?_cons_succ, List.getElem?_nil, List.set_cons_zero, List.set_cons_succ, if_true, if_false, Bool.not_true, Bool.not_false, Bool.false_eq_true, Option.map_some, Option.map_none, List.any_cons, List.any_nil, Bool.or_false, Bool.false_or, Bool.or_true, Bool.true_or, Bool.and_true, Bool.true_and, Bool.false_and, Bool.and_false, beq_self_eq_true, String.reduceBEq, decide_true, decide_false, Nat.reduceAdd, Nat.reduceSub, Nat.zero_add, Int.natAbs_natCast, and_self, true_and, and_true, List.isEmpty_cons, List.isEmpty_nil, Option.isSome_some, Option.isSome_none, List.append_nil, e, resOf]
theorem wh_go {t : MSt → MH → Res Bool} {b : MSt → MH → SR} {n : Nat} {sm sm2 : MSt} {h h1 h2 : MH} (e1 : t sm h = .ok true h1) (e2 : b sm h1 = .nx sm2 h2) : whM t b (n + 1) sm h = whM t b n sm2 h2 := by
  conv => lhs; unfold whM; rw [e1]
  simp only [Res.then', if_true, e2]
theorem wh_end {t : MSt → MH → Res Bool} {b : MSt → MH → SR} {n : Nat} {sm : MSt} {h h1 : MH} (e1 : t sm h = .ok false h1) : whM t b (n + 1) sm h = .nx sm h1 := by
  unfold whM
  rw [e1]
  rfl
def rfB : List CS := [.ex (.met (.v 1) [] none (some .append) none [.ix (.v 3) (.k (.int 0))]),
  .set 2 (.ix (.v 3) (.k (.int 1))),
  .set 3 (.call 5 [.v 0, .v 2] [] false)]
def rfT : CE := .tcmp .IsNot (.v 3) (.k .non)
theorem fuel2 : whFuel = 1099511627774 + 1 + 1 := rfl
theorem r6 (n : Nat) (s : List Nat) (h : MH) (hl : s.length < 100) (hc : 63 ∉ s) : ∃ g, cc (n + 3) 6 [.str (frameT s)] h = .ok (.tup [.ref h.length, .int ((frameT s).length : Nat)]) (h ++ g) := by
  obtain ⟨g, e⟩ := r5 n s (h ++ [.lst []]) hl hc
  have e0 : (h ++ [MO.lst []] ++ g)[h.length]? = some (.lst []) := Ext.app.get get_new
  have ap := ap_l (h := h ++ [MO.lst []] ++ g) (a := h.length) (xs := []) (y := .str s) (by unfold lim; decide)
  have es : (h ++ [MO.lst []] ++ g).set h.length (.lst ([] ++ [MV.str s])) = h ++ MO.lst [.str s] :: g := by simp
  rw [es] at ap
  have e2 := r5e n (frameT s) (h ++ MO.lst [.str s] :: g)
  have t0 : ∀ x y : MV, atI [x, y] 0 = some x := fun _ _ => rfl
  have t1 : ∀ x y : MV, atI [x, y] 1 = some y := fun _ _ => rfl
  have l2 : (2 : Nat) ≤ lim := by unfold lim; omega
  have l0 : (0 : Nat) ≤ lim := by unfold lim; omega
  refine ⟨MO.lst [.str s] :: g, ?_⟩
  generalize (((frameT s).length : Nat) : Int) = FL at *
  generalize frameT s = F at *
  generalize hH : h ++ [MO.lst []] ++ g = H at *
  have w : evS gs (cc (n + 2)) (.whl rfT rfB) [some (.str F), some (.ref h.length), some (.int 0), some (.tup [.str s, .int FL])] H = .nx [some (.str F), some (.ref h.length), some (.int FL), some .non] (h ++ MO.lst [.str s] :: g) := by
    show whM (fun sm h => evT gs (cc (n + 2)) rfT sm h) (fun sm h => evB gs (cc (n + 2)) rfB sm h) whFuel _ _ = _
    rw [fuel2]
    rw [wh_go (h1 := H) (sm2 := [some (.str F), some (.ref h.length), some (.int FL), some .non]) (h2 := h ++ MO.lst [.str s] :: g) (by unfold rfT; simp only [evB, evS, evE, evT, evEs, evBo, evBoT, evIfC, evP, evI, bind_ok, bind_ex, bind_err, then_ok, then_ex, then_err, opt_some, opt_none, gd_f, gd_ok, t_non, t_bl, t_int, t_tup, b_ii, b_sub, c_eq_i, c_ne_i, c_eq_s, c_ne_s, c_eq_b, c_ne_b, c_lt_i, c_gt_i, c_le_i, c_ge_i, m_lt_i, m_le_i, m_le_s, c_is_n, c_isn_n, c_is_b, c_isn_b, is_n, is_i, is_s, is_b, is_t, is_r, c_in_c, c_nin_c, l_t, i_i, o_c, ix_t, ty_n, ty_b, ty_i, ty_s, ty_t, isinM, asgC, setAll, List.map_cons, List.map_nil, List.cons_append, List.nil_append, List.length_cons, List.length_nil, List.replicate_succ, List.replicate_zero, List.getElem?_cons_zero, List.getElem?_cons_succ, List.getElem?_nil, List.set_cons_zero, List.set_cons_succ, if_true, if_false, Bool.not_true, Bool.not_false, Bool.false_eq_true, Option.map_some, Option.map_none, List.any_cons, List.any_nil, Bool.or_false, Bool.false_or, Bool.or_true, Bool.true_or, Bool.and_true, Bool.true_and, Bool.false_and, Bool.and_false, beq_self_eq_true, String.reduceBEq, decide_true, decide_false, Nat.reduceAdd, Nat.reduceSub, Nat.zero_add, Int.natAbs_natCast, and_self, true_and, and_true, List.isEmpty_cons, List.isEmpty_nil, Option.isSome_some, Option.isSome_none, List.append_nil]) (by unfold rfB; simp only [evB, evS, evE, evT, evEs, evBo, evBoT, evIfC, evP, evI, bind_ok, bind_ex, bind_err, then_ok, then_ex, then_err, opt_some, opt_none, gd_f, gd_ok, t_non, t_bl, t_int, t_tup, b_ii, b_sub, c_eq_i, c_ne_i, c_eq_s, c_ne_s, c_eq_b, c_ne_b, c_lt_i, c_gt_i, c_le_i, c_ge_i, m_lt_i, m_le_i, m_le_s, c_is_n, c_isn_n, c_is_b, c_isn_b, is_n, is_i, is_s, is_b, is_t, is_r, c_in_c, c_nin_c, l_t, i_i, o_c, ix_t, ty_n, ty_b, ty_i, ty_s, ty_t, isinM, asgC, setAll, List.map_cons, List.map_nil, List.cons_append, List.nil_append, List.length_cons, List.length_nil, List.replicate_succ, List.replicate_zero, List.getElem?_cons_zero, List.getElem?_cons_succ, List.getElem?_nil, List.set_cons_zero, List.set_cons_succ, if_true, if_false, Bool.not_true, Bool.not_false, Bool.false_eq_true, Option.map_some, Option.map_none, List.any_cons, List.any_nil, Bool.or_false, Bool.false_or, Bool.or_true, Bool.true_or, Bool.and_true, Bool.true_and, Bool.false_and, Bool.and_false, beq_self_eq_true, String.reduceBEq, decide_true, decide_false, Nat.reduceAdd, Nat.reduceSub, Nat.zero_add, Int.natAbs_natCast, and_self, true_and, and_true, List.isEmpty_cons, List.isEmpty_nil, Option.isSome_some, Option.isSome_none, List.append_nil, e0, t0, ap, t1, e2])]
    rw [wh_end (h1 := h ++ MO.lst [.str s] :: g) (by unfold rfT; simp only [evB, evS, evE, evT, evEs, evBo, evBoT, evIfC, evP, evI, bind_ok, bind_ex, bind_err, then_ok, then_ex, then_err, opt_some, opt_none, gd_f, gd_ok, t_non, t_bl, t_int, t_tup, b_ii, b_sub, c_eq_i, c_ne_i, c_eq_s, c_ne_s, c_eq_b, c_ne_b, c_lt_i, c_gt_i, c_le_i, c_ge_i, m_lt_i, m_le_i, m_le_s, c_is_n, c_isn_n, c_is_b, c_isn_b, is_n, is_i, is_s, is_b, is_t, is_r, c_in_c, c_nin_c, l_t, i_i, o_c, ix_t, ty_n, ty_b, ty_i, ty_s, ty_t, isinM, asgC, setAll, List.map_cons, List.map_nil, List.cons_append, List.nil_append, List.length_cons, List.length_nil, List.replicate_succ, List.replicate_zero, List.getElem?_cons_zero, List.getElem?_cons_succ, List.getElem?_nil, List.set_cons_zero, List.set_cons_succ, if_true, if_false, Bool.not_true, Bool.not_false, Bool.false_eq_true, Option.map_some, Option.map_none, List.any_cons, List.any_nil, Bool.or_false, Bool.false_or, Bool.or_true, Bool.true_or, Bool.and_true, Bool.true_and, Bool.false_and, Bool.and_false, beq_self_eq_true, String.reduceBEq, decide_true, decide_false, Nat.reduceAdd, Nat.reduceSub, Nat.zero_add, Int.natAbs_natCast, and_self, true_and, and_true, List.isEmpty_cons, List.isEmpty_nil, Option.isSome_some, Option.isSome_none, List.append_nil])]
  rw [call_res (k := 4) (b := c6) rfl]
  unfold c6
  unfold rfT rfB at w
  generalize (CS.whl (.tcmp .IsNot (.v 3) (.k .non)) [.ex (.met (.v 1) [] none (some .append) none [.ix (.v 3) (.k (.int 0))]),
  .set 2 (.ix (.v 3) (.k (.int 1))),
  .set 3 (.call 5 [.v 0, .v 2] [] false)]) = W at w ⊢
  simp only [evB, evS, evE, evT, evEs, evBo, evBoT, evIfC, evP, evI, bind_ok, bind_ex, bind_err, then_ok, then_ex, then_err, opt_some, opt_none, gd_f, gd_ok, t_non, t_bl, t_int, t_tup, b_ii, b_sub, c_eq_i, c_ne_i, c_eq_s, c_ne_s, c_eq_b, c_ne_b, c_lt_i, c_gt_i, c_le_i, c_ge_i, m_lt_i, m_le_i, m_le_s, c_is_n, c_isn_n, c_is_b, c_isn_b, is_n, is_i, is_s, is_b, is_t, is_r, c_in_c, c_nin_c, l_t, i_i, o_c, ix_t, ty_n, ty_b, ty_i, ty_s, ty_t, isinM, asgC, setAll, List.map_cons, List.map_nil, List.cons_append, List.nil_append, List.length_cons, List.length_nil, List.replicate_succ, List.replicate_zero, List.getElem?_cons_zero, List.getElem?_cons_succ, List.getElem?_nil, List.set_cons_zero, List.set_cons_succ, if_true, if_false, Bool.not_true, Bool.not_false, Bool.false_eq_true, Option.map_some, Option.map_none, List.any_cons, List.any_nil, Bool.or_false, Bool.false_or, Bool.or_true, Bool.true_or, Bool.and_true, Bool.true_and, Bool.false_and, Bool.and_false, beq_self_eq_true, String.reduceBEq, decide_true, decide_false, Nat.reduceAdd, Nat.reduceSub, Nat.zero_add, Int.natAbs_natCast, and_self, true_and, and_true, List.isEmpty_cons, List.isEmpty_nil, Option.isSome_some, Option.isSome_none, List.append_nil, l0, lay, e, w, l2, resOf]
theorem r7 (n : Nat) (s : List Nat) (h : MH) (hl : s.length < 100) (hc : 63 ∉ s) : ∃ g, cc (n + 4) 7 [.str (frameT s)] h = .ok (.bl true) (h ++ g) := by
  obtain ⟨g, e⟩ := r6 n s h hl hc
  have t1 : ∀ x y : MV, atI [x, y] 1 = some y := fun _ _ => rfl
  have ll : bltM .len (h ++ g) [.str (frameT s)] = .ok (.int ((frameT s).length : Nat)) (h ++ g) := l_s (by have := (frame_len s hl).1; unfold lim; omega)
  refine ⟨g, ?_⟩
  generalize (((frameT s).length : Nat) : Int) = FL at *
  generalize frameT s = F at *
  rw [call_res (k := 1) (b := c7) rfl]
  unfold c7
  simp only [evB, evS, evE, evT, evEs, evBo, evBoT, evIfC, evP, evI, bind_ok, bind_ex, bind_err, then_ok, then_ex, then_err, opt_some, opt_none, gd_f, gd_ok, t_non, t_bl, t_int, t_tup, b_ii, b_sub, c_eq_i, c_ne_i, c_eq_s, c_ne_s, c_eq_b, c_ne_b, c_lt_i, c_gt_i, c_le_i, c_ge_i, m_lt_i, m_le_i, m_le_s, c_is_n, c_isn_n, c_is_b, c_isn_b, is_n, is_i, is_s, is_b, is_t, is_r, c_in_c, c_nin_c, l_t, i_i, o_c, ix_t, ty_n, ty_b, ty_i, ty_s, ty_t, isinM, asgC, setAll, List.map_cons, List.map_nil, List.cons_append, List.nil_append, List.length_cons, List.length_nil, List.replicate_succ, List.replicate_zero, List.getElem?_cons_zero, List.getElem?_cons_succ, List.getElem?_nil, List.set_cons_zero, List.set_cons_succ, if_true, if_false, Bool.not_true, Bool.not_false, Bool.false_eq_true, Option.map_some, Option.map_none, List.any_cons, List.any_nil, Bool.or_false, Bool.false_or, Bool.or_true, Bool.true_or, Bool.and_true, Bool.true_and, Bool.false_and, Bool.and_false, beq_self_eq_true, String.reduceBEq, decide_true, decide_false, Nat.reduceAdd, Nat.reduceSub, Nat.zero_add, Int.natAbs_natCast, and_self, true_and, and_true, List.isEmpty_cons, List.isEmpty_nil, Option.isSome_some, Option.isSome_none, List.append_nil, e, t1, ll, resOf]
end Pg
end

section
set_option linter.all false
set_option maxRecDepth 100000
set_option maxHeartbeats 1000000
namespace Pg
open PySem PySem.Spec L2 Mn
open TL (numL)
/-! ### keys of postings -/
def keyT (acc nm : List Nat) (day num pl : Nat) : List Nat := acc ++ [47] ++ six day ++ [47] ++ nm ++ [47] ++ six num ++ [47] ++ six pl
theorem key_join (acc nm : List Nat) (day num pl : Nat) : joinM [47] [acc, six day, nm, six num, six pl] = keyT acc nm day num pl := by
  simp only [joinM, keyT, List.append_assoc]
section
variable {acc nm : List Nat} {day num pl : Nat} (hd : day < 1000000) (hn : num < 1000000) (hp : pl < 1000000) (la : acc.length ≤ 20) (ln : nm.length ≤ 20)
include hd hn hp la ln
theorem key_len : (keyT acc nm day num pl).length < 100 := by
  simp [keyT, six_len hd, six_len hn, six_len hp]
  omega
theorem r36 (n : Nat) (x4 x5 : MV) (h : MH) : ∃ g, cc (n + 3) 36 [.tup [.str nm, .int num, .int day, .str acc, x4, x5], .int pl] h = .ok (.str (keyT acc nm day num pl)) (h ++ g) := by
  have s1 := r35 n day h hd
  have s2 := r35 n num h hn
  have s3 := r35 n pl h hp
  have i0 : ∀ a b c d e f : MV, atI [a, b, c, d, e, f] 0 = some a := fun _ _ _ _ _ _ => rfl
  have i1 : ∀ a b c d e f : MV, atI [a, b, c, d, e, f] 1 = some b := fun _ _ _ _ _ _ => rfl
  have i2 : ∀ a b c d e f : MV, atI [a, b, c, d, e, f] 2 = some c := fun _ _ _ _ _ _ => rfl
  have i3 : ∀ a b c d e f : MV, atI [a, b, c, d, e, f] 3 = some d := fun _ _ _ _ _ _ => rfl
  have l5 : (5 : Nat) ≤ lim := by unfold lim; omega
  have j := j_l (h := h ++ [MO.lst [MV.str acc, .str (six day), .str nm, .str (six num), .str (six pl)]]) (a := h.length) (ts := [acc, six day, nm, six num, six pl]) (t := [47]) get_new (by
    simp [six_len hd, six_len hn, six_len hp]
    unfold lim
    omega)
  rw [key_join] at j
  refine ⟨[MO.lst [MV.str acc, .str (six day), .str nm, .str (six num), .str (six pl)]], ?_⟩
  rw [call_res (k := 2) (b := c36) rfl]
  unfold c36
  simp only [evB, evS, evE, evT, evEs, evBo, evBoT, evIfC, evP, evI, bind_ok, bind_ex, bind_err, then_ok, then_ex, then_err, opt_some, opt_none, gd_f, gd_ok, t_non, t_bl, t_int, t_tup, b_ii, b_sub, c_eq_i, c_ne_i, c_eq_s, c_ne_s, c_eq_b, c_ne_b, c_lt_i, c_gt_i, c_le_i, c_ge_i, m_lt_i, m_le_i, m_le_s, c_is_n, c_isn_n, c_is_b, c_isn_b, is_n, is_i, is_s, is_b, is_t, is_r, c_in_c, c_nin_c, l_t, i_i, o_c, ix_t, ty_n, ty_b, ty_i, ty_s, ty_t, isinM, asgC, setAll, List.map_cons, List.map_nil, List.cons_append, List.nil_append, List.length_cons, List.length_nil, List.replicate_succ, List.replicate_zero, List.getElem?_cons_zero, List.getElem?_cons_succ, List.getElem?_nil, List.set_cons_zero, List.set_cons_succ, if_true, if_false, Bool.not_true, Bool.not_false, Bool.false_eq_true, Option.map_some, Option.map_none, List.any_cons, List.any_nil, Bool.or_false, Bool.false_or, Bool.or_true, Bool.true_or, Bool.and_true, Bool.true_and, Bool.false_and, Bool.and_false, beq_self_eq_true, String.reduceBEq, decide_true, decide_false, Nat.reduceAdd, Nat.reduceSub, Nat.zero_add, Int.natAbs_natCast, and_self, true_and, and_true, List.isEmpty_cons, List.isEmpty_nil, Option.isSome_some, Option.isSome_none, List.append_nil, i0, i1, i2, i3, s1, s2, s3, l5, lay, j, resOf]
theorem key_spl (fa : 47 ∉ acc) (fn : 47 ∉ nm) : TL.spl [47] 0 [] (keyT acc nm day num pl) = [acc, six day, nm, six num, six pl] := by
  have fs : ∀ k, 47 ∉ six k := fun k hk => by have := six_dig (n := k) 47 hk; omega
  rw [← key_join, joinM_eq]
  refine TL.spl_join (by simp) ?_
  intro x hx
  simp only [List.mem_cons, List.not_mem_nil, or_false] at hx
  rcases hx with rfl | rfl | rfl | rfl | rfl
  · exact fa
  · exact fs _
  · exact fn
  · exact fs _
  · exact fs _
end
theorem sixV {k : Nat} {h : MH} (hk : k < 1000000) : bltM .int h [.str (six k)] = .ok (.int k) h := by
  have l := six_len hk
  have e := int_digits (six_dig (n := k)) (by intro z; rw [z] at l; cases l) (by omega)
  rw [six_val] at e
  exact i_s (by omega) e
def rkB : List CS := [.ite (.tbo .Or [.tcmp .NotEq (.blt .len [.ix (.v 1) (.v 2)]) (.k (.int 6)), .tv (.lc (.v 3) (.one 3) 0 [.ix (.v 1) (.v 2)] [.tcmp .NotIn (.v 3) (.k (.str [48, 49, 50, 51, 52, 53, 54, 55, 56, 57]))] [3])]) [.rs 3 (.k (.str [110, 111, 32, 107, 101, 121]))] []]
theorem rk_step (C : CallS) {x : MV} {h : MH} {a k : Nat} {i : Int} (hk : k < 1000000) (hi : ixM h (.ref a) (.int i) = some (.str (six k))) : ∃ g, evB gs C rkB [some x, some (.ref a), some (.int i), none] h = .nx [some x, some (.ref a), some (.int i), none] (h ++ g) := by
  have l := six_len hk
  obtain ⟨g, e⟩ := chr_ev C [48, 49, 50, 51, 52, 53, 54, 55, 56, 57] (j := 3) (es := [.ix (.v 1) (.v 2)]) (own := [3]) (sm := [some x, some (.ref a), some (.int i), none]) (h := h) (s := six k) (by
      simp only [evB, evS, evE, evT, evEs, evBo, evBoT, evIfC, evP, evI, bind_ok, bind_ex, bind_err, then_ok, then_ex, then_err, opt_some, opt_none, gd_f, gd_ok, t_non, t_bl, t_int, t_tup, b_ii, b_sub, c_eq_i, c_ne_i, c_eq_s, c_ne_s, c_eq_b, c_ne_b, c_lt_i, c_gt_i, c_le_i, c_ge_i, m_lt_i, m_le_i, m_le_s, c_is_n, c_isn_n, c_is_b, c_isn_b, is_n, is_i, is_s, is_b, is_t, is_r, c_in_c, c_nin_c, l_t, i_i, o_c, ix_t, ty_n, ty_b, ty_i, ty_s, ty_t, isinM, asgC, setAll, List.map_cons, List.map_nil, List.cons_append, List.nil_append, List.length_cons, List.length_nil, List.replicate_succ, List.replicate_zero, List.getElem?_cons_zero, List.getElem?_cons_succ, List.getElem?_nil, List.set_cons_zero, List.set_cons_succ, if_true, if_false, Bool.not_true, Bool.not_false, Bool.false_eq_true, Option.map_some, Option.map_none, List.any_cons, List.any_nil, Bool.or_false, Bool.false_or, Bool.or_true, Bool.true_or, Bool.and_true, Bool.true_and, Bool.false_and, Bool.and_false, beq_self_eq_true, String.reduceBEq, decide_true, decide_false, Nat.reduceAdd, Nat.reduceSub, Nat.zero_add, Int.natAbs_natCast, and_self, true_and, and_true, List.isEmpty_cons, List.isEmpty_nil, Option.isSome_some, Option.isSome_none, List.append_nil, hi, it_s (show (six k).length ≤ lim by unfold lim; omega)]) (by omega) (by simp [wipeM])
  have all : ((six k).all fun c => decide (c ∈ [48, 49, 50, 51, 52, 53, 54, 55, 56, 57])) = true := by
    rw [List.all_eq_true]
    intro c hc
    have := six_dig (n := k) c hc
    simp
    omega
  rw [all] at e
  have ll : bltM .len h [.str (six k)] = .ok (.int 6) h := by
    rw [l_s (by unfold lim; omega), l]
    rfl
  refine ⟨g, ?_⟩
  unfold rkB
  generalize (CE.tv (.lc (.v 3) (.one 3) 0 [.ix (.v 1) (.v 2)] [.tcmp .NotIn (.v 3) (.k (.str [48, 49, 50, 51, 52, 53, 54, 55, 56, 57]))] [3])) = N at e ⊢
  simp only [evB, evS, evE, evT, evEs, evBo, evBoT, evIfC, evP, evI, bind_ok, bind_ex, bind_err, then_ok, then_ex, then_err, opt_some, opt_none, gd_f, gd_ok, t_non, t_bl, t_int, t_tup, b_ii, b_sub, c_eq_i, c_ne_i, c_eq_s, c_ne_s, c_eq_b, c_ne_b, c_lt_i, c_gt_i, c_le_i, c_ge_i, m_lt_i, m_le_i, m_le_s, c_is_n, c_isn_n, c_is_b, c_isn_b, is_n, is_i, is_s, is_b, is_t, is_r, c_in_c, c_nin_c, l_t, i_i, o_c, ix_t, ty_n, ty_b, ty_i, ty_s, ty_t, isinM, asgC, setAll, List.map_cons, List.map_nil, List.cons_append, List.nil_append, List.length_cons, List.length_nil, List.replicate_succ, List.replicate_zero, List.getElem?_cons_zero, List.getElem?_cons_succ, List.getElem?_nil, List.set_cons_zero, List.set_cons_succ, if_true, if_false, Bool.not_true, Bool.not_false, Bool.false_eq_true, Option.map_some, Option.map_none, List.any_cons, List.any_nil, Bool.or_false, Bool.false_or, Bool.or_true, Bool.true_or, Bool.and_true, Bool.true_and, Bool.false_and, Bool.and_false, beq_self_eq_true, String.reduceBEq, decide_true, decide_false, Nat.reduceAdd, Nat.reduceSub, Nat.zero_add, Int.natAbs_natCast, and_self, true_and, and_true, List.isEmpty_cons, List.isEmpty_nil, Option.isSome_some, Option.isSome_none, List.append_nil, hi, ll, e]
section
variable {acc nm : List Nat} {day num pl : Nat} (hd : day < 1000000) (hn : num < 1000000) (hp : pl < 1000000) (la : acc.length ≤ 20) (ln : nm.length ≤ 20)
include hd hn hp la ln
theorem r37 (n : Nat) (h : MH) (fa : 47 ∉ acc) (fn : 47 ∉ nm) : ∃ g, cc (n + 1) 37 [.str (keyT acc nm day num pl)] h = .ok (.tup [.str acc, .int day, .str nm, .int num, .int pl]) (h ++ g) := by
  have kl := key_len hd hn hp la ln
  have e1 : mtS .split h (keyT acc nm day num pl) [.str [47]] = .ok (.ref h.length) (h ++ [MO.lst [MV.str acc, .str (six day), .str nm, .str (six num), .str (six pl)]]) := by
    rw [split_m (by simp) (by omega) (by decide), key_spl hd hn hp la ln fa fn]
    rfl
  have h1 : (h ++ [MO.lst [MV.str acc, .str (six day), .str nm, .str (six num), .str (six pl)]])[h.length]? = some (MO.lst [MV.str acc, .str (six day), .str nm, .str (six num), .str (six pl)]) := get_new
  generalize hH : h ++ [MO.lst [MV.str acc, .str (six day), .str nm, .str (six num), .str (six pl)]] = H at e1 h1
  have hx : ∀ g : MH, (H ++ g)[h.length]? = some (MO.lst [MV.str acc, .str (six day), .str nm, .str (six num), .str (six pl)]) := fun g => Ext.app.get h1
  have i0 : ∀ g : MH, ixM (H ++ g) (.ref h.length) (.int 0) = some (.str acc) := fun g => by rw [ix_l (hx g)]; rfl
  have i1 : ∀ g : MH, ixM (H ++ g) (.ref h.length) (.int 1) = some (.str (six day)) := fun g => by rw [ix_l (hx g)]; rfl
  have i2 : ∀ g : MH, ixM (H ++ g) (.ref h.length) (.int 2) = some (.str nm) := fun g => by rw [ix_l (hx g)]; rfl
  have i3 : ∀ g : MH, ixM (H ++ g) (.ref h.length) (.int 3) = some (.str (six num)) := fun g => by rw [ix_l (hx g)]; rfl
  have i4 : ∀ g : MH, ixM (H ++ g) (.ref h.length) (.int 4) = some (.str (six pl)) := fun g => by rw [ix_l (hx g)]; rfl
  obtain ⟨sm', h', e, z, g, f1, f2⟩ := forC_run (tg := .one 2) (it := .seq [.int 1, .int 3, .int 4]) (b := fun sm h => evB gs (cc n) rkB sm h) 3
    (fun k sm H' => ∃ (z : Option MV) (g : MH), sm = [some (.str (keyT acc nm day num pl)), some (.ref h.length), z, none] ∧ H' = H ++ g) (m := 4) (sm := [some (.str (keyT acc nm day num pl)), some (.ref h.length), none, none]) (h := H) (by omega) ⟨none, [], rfl, by simp⟩ (by
      rintro k sm H' hk ⟨z, g, rfl, rfl⟩
      match k, hk with
      | 0, _ =>
        obtain ⟨g2, e2⟩ := rk_step (cc n) (x := .str (keyT acc nm day num pl)) hd (i1 g)
        exact ⟨.int 1, _, rfl, rfl, _, _, .inl e2, some (.int 1), g ++ g2, rfl, by simp⟩
      | 1, _ =>
        obtain ⟨g2, e2⟩ := rk_step (cc n) (x := .str (keyT acc nm day num pl)) hn (i3 g)
        exact ⟨.int 3, _, rfl, rfl, _, _, .inl e2, some (.int 3), g ++ g2, rfl, by simp⟩
      | 2, _ =>
        obtain ⟨g2, e2⟩ := rk_step (cc n) (x := .str (keyT acc nm day num pl)) hp (i4 g)
        exact ⟨.int 4, _, rfl, rfl, _, _, .inl e2, some (.int 4), g ++ g2, rfl, by simp⟩) (by
      rintro sm H' _
      rfl)
  have l3 : (3 : Nat) ≤ lim := by unfold lim; omega
  have l5 : (5 : Nat) ≤ lim := by unfold lim; omega
  have ev : evS gs (cc n) (.for_ (.one 2) 0 [.tup [.k (.int 1), .k (.int 3), .k (.int 4)]] rkB) [some (.str (keyT acc nm day num pl)), some (.ref h.length), none, none] H = .nx [some (.str (keyT acc nm day num pl)), some (.ref h.length), z, none] (H ++ g) := by
    rw [evS_for (it := .seq [.int 1, .int 3, .int 4]) (h1 := H) (by simp only [evB, evS, evE, evT, evEs, evBo, evBoT, evIfC, evP, evI, bind_ok, bind_ex, bind_err, then_ok, then_ex, then_err, opt_some, opt_none, gd_f, gd_ok, t_non, t_bl, t_int, t_tup, b_ii, b_sub, c_eq_i, c_ne_i, c_eq_s, c_ne_s, c_eq_b, c_ne_b, c_lt_i, c_gt_i, c_le_i, c_ge_i, m_lt_i, m_le_i, m_le_s, c_is_n, c_isn_n, c_is_b, c_isn_b, is_n, is_i, is_s, is_b, is_t, is_r, c_in_c, c_nin_c, l_t, i_i, o_c, ix_t, ty_n, ty_b, ty_i, ty_s, ty_t, isinM, asgC, setAll, List.map_cons, List.map_nil, List.cons_append, List.nil_append, List.length_cons, List.length_nil, List.replicate_succ, List.replicate_zero, List.getElem?_cons_zero, List.getElem?_cons_succ, List.getElem?_nil, List.set_cons_zero, List.set_cons_succ, if_true, if_false, Bool.not_true, Bool.not_false, Bool.false_eq_true, Option.map_some, Option.map_none, List.any_cons, List.any_nil, Bool.or_false, Bool.false_or, Bool.or_true, Bool.true_or, Bool.and_true, Bool.true_and, Bool.false_and, Bool.and_false, beq_self_eq_true, String.reduceBEq, decide_true, decide_false, Nat.reduceAdd, Nat.reduceSub, Nat.zero_add, Int.natAbs_natCast, and_self, true_and, and_true, List.isEmpty_cons, List.isEmpty_nil, Option.isSome_some, Option.isSome_none, List.append_nil, l3, itOf])]
    rw [show (It.seq [MV.int 1, .int 3, .int 4]).fuel H = 4 by rfl, e, f1, f2]
  have ll : bltM .len H [.ref h.length] = .ok (.int 5) H := by rw [l_l h1]; rfl
  refine ⟨[MO.lst [MV.str acc, .str (six day), .str nm, .str (six num), .str (six pl)]] ++ g, ?_⟩
  rw [← List.append_assoc, hH]
  rw [call_res (k := 4) (b := c37) rfl]
  unfold c37
  unfold rkB at ev
  generalize (CS.for_ (.one 2) 0 [.tup [.k (.int 1), .k (.int 3), .k (.int 4)]] [.ite (.tbo .Or [.tcmp .NotEq (.blt .len [.ix (.v 1) (.v 2)]) (.k (.int 6)), .tv (.lc (.v 3) (.one 3) 0 [.ix (.v 1) (.v 2)] [.tcmp .NotIn (.v 3) (.k (.str [48, 49, 50, 51, 52, 53, 54, 55, 56, 57]))] [3])]) [.rs 3 (.k (.str [110, 111, 32, 107, 101, 121]))] []]) = N at ev ⊢
  simp only [evB, evS, evE, evT, evEs, evBo, evBoT, evIfC, evP, evI, bind_ok, bind_ex, bind_err, then_ok, then_ex, then_err, opt_some, opt_none, gd_f, gd_ok, t_non, t_bl, t_int, t_tup, b_ii, b_sub, c_eq_i, c_ne_i, c_eq_s, c_ne_s, c_eq_b, c_ne_b, c_lt_i, c_gt_i, c_le_i, c_ge_i, m_lt_i, m_le_i, m_le_s, c_is_n, c_isn_n, c_is_b, c_isn_b, is_n, is_i, is_s, is_b, is_t, is_r, c_in_c, c_nin_c, l_t, i_i, o_c, ix_t, ty_n, ty_b, ty_i, ty_s, ty_t, isinM, asgC, setAll, List.map_cons, List.map_nil, List.cons_append, List.nil_append, List.length_cons, List.length_nil, List.replicate_succ, List.replicate_zero, List.getElem?_cons_zero, List.getElem?_cons_succ, List.getElem?_nil, List.set_cons_zero, List.set_cons_succ, if_true, if_false, Bool.not_true, Bool.not_false, Bool.false_eq_true, Option.map_some, Option.map_none, List.any_cons, List.any_nil, Bool.or_false, Bool.false_or, Bool.or_true, Bool.true_or, Bool.and_true, Bool.true_and, Bool.false_and, Bool.and_false, beq_self_eq_true, String.reduceBEq, decide_true, decide_false, Nat.reduceAdd, Nat.reduceSub, Nat.zero_add, Int.natAbs_natCast, and_self, true_and, and_true, List.isEmpty_cons, List.isEmpty_nil, Option.isSome_some, Option.isSome_none, List.append_nil, e1, ll, ev, i0 g, i1 g, i2 g, i3 g, i4 g, sixV hd, sixV hn, sixV hp, l5, resOf]
end
end Pg
end

section
set_option linter.all false
set_option maxRecDepth 100000
set_option maxHeartbeats 1000000
namespace Pg
open PySem PySem.Spec L2 Mn
open TL (numL)
/-! ### the numbers that are drawn -/
theorem ded_mem {x : Int} : ∀ {l : List Int}, x ∈ dedI l ↔ x ∈ l
  | [] => Iff.rfl
  | y :: r => by
    have ih := ded_mem (x := x) (l := r)
    unfold dedI
    by_cases h : (dedI r).contains y = true
    · rw [if_pos h, ih, List.mem_cons]
      constructor
      · exact .inr
      · rintro (rfl | h2)
        · rw [List.contains_iff_mem] at h
          exact ded_mem.mp h
        · exact h2
    · rw [if_neg h, List.mem_cons, List.mem_cons, ih]
theorem ded_nodup : ∀ (l : List Int), (dedI l).Nodup
  | [] => List.nodup_nil
  | y :: r => by
    have ih := ded_nodup r
    unfold dedI
    by_cases h : (dedI r).contains y = true
    · rw [if_pos h]; exact ih
    · rw [if_neg h, List.nodup_cons]
      exact ⟨fun hm => h (List.contains_iff_mem.mpr hm), ih⟩
theorem ded_len : ∀ (l : List Int), (dedI l).length ≤ l.length
  | [] => Nat.le_refl _
  | y :: r => by
    have ih := ded_len r
    unfold dedI
    split <;> simp <;> omega
theorem insI_mem {x y : Int} : ∀ {l : List Int}, x ∈ insI y l ↔ x = y ∨ x ∈ l
  | [] => by simp [insI]
  | z :: r => by
    unfold insI
    split
    · simp
    · rw [List.mem_cons, insI_mem, List.mem_cons]
      constructor
      · rintro (h | h | h)
        · exact .inr (.inl h)
        · exact .inl h
        · exact .inr (.inr h)
      · rintro (h | h | h)
        · exact .inr (.inl h)
        · exact .inl h
        · exact .inr (.inr h)
theorem sortI_mem {x : Int} : ∀ {l : List Int}, x ∈ sortI l ↔ x ∈ l
  | [] => Iff.rfl
  | y :: r => by
    show x ∈ insI y (sortI r) ↔ _
    rw [insI_mem, sortI_mem, List.mem_cons]
theorem insI_len (y : Int) : ∀ (l : List Int), (insI y l).length = l.length + 1
  | [] => rfl
  | z :: r => by
    unfold insI
    split
    · rfl
    · simp [insI_len y r]
theorem sortI_len : ∀ (l : List Int), (sortI l).length = l.length
  | [] => rfl
  | y :: r => by
    show (insI y (sortI r)).length = _
    rw [insI_len, sortI_len r, List.length_cons]
theorem insI_up {y : Int} : ∀ {l : List Int}, l.Pairwise (· < ·) → y ∉ l → (insI y l).Pairwise (· < ·)
  | [], _, _ => by simp [insI]
  | z :: r, h, hn => by
    rw [List.pairwise_cons] at h
    unfold insI
    split
    · rename_i hle
      have hlt : y < z := by
        have : y ≠ z := fun e => hn (by rw [e]; exact List.mem_cons_self)
        omega
      rw [List.pairwise_cons, List.pairwise_cons]
      refine ⟨?_, h⟩
      intro a ha
      rcases List.mem_cons.mp ha with rfl | ha
      · exact hlt
      · have := h.1 a ha
        omega
    · rename_i hle
      rw [List.pairwise_cons]
      refine ⟨?_, insI_up h.2 fun hm => hn (List.mem_cons_of_mem _ hm)⟩
      intro a ha
      rcases insI_mem.mp ha with rfl | ha
      · omega
      · exact h.1 a ha
theorem sortI_up : ∀ {l : List Int}, l.Nodup → (sortI l).Pairwise (· < ·)
  | [], _ => List.Pairwise.nil
  | y :: r, h => by
    rw [List.nodup_cons] at h
    exact insI_up (sortI_up h.2) fun hm => h.1 (sortI_mem.mp hm)
theorem nats_of : ∀ {l : List Int}, (∀ x ∈ l, 0 ≤ x ∧ x < 1000000) → ∃ L : List Nat, l = L.map (fun k : Nat => (k : Int)) ∧ ∀ k ∈ L, k < 1000000
  | [], _ => ⟨[], rfl, fun k hk => by cases hk⟩
  | x :: r, h => by
    obtain ⟨L, e, hL⟩ := nats_of fun y hy => h y (List.mem_cons_of_mem _ hy)
    have h0 := h x List.mem_cons_self
    refine ⟨x.toNat :: L, by rw [List.map_cons, ← e]; congr 1; omega, ?_⟩
    intro k hk
    rcases List.mem_cons.mp hk with rfl | hk
    · omega
    · exact hL k hk
/-- the sorted numbers -/
def Up (L : List Nat) : Prop := L.length ≤ 11 ∧ (∀ k ∈ L, k < 1000000) ∧ L.Pairwise (· < ·)
theorem drawn (l : List Int) (h : ∀ x ∈ l, 0 ≤ x ∧ x < 1000000) (hl : l.length ≤ 11) : ∃ L : List Nat, sortI (dedI l) = L.map (fun k : Nat => (k : Int)) ∧ Up L := by
  obtain ⟨L, e, hL⟩ := nats_of (l := sortI (dedI l)) fun x hx => h x (ded_mem.mp (sortI_mem.mp hx))
  refine ⟨L, e, ?_, hL, ?_⟩
  · have h1 := sortI_len (dedI l)
    rw [e, List.length_map] at h1
    have h2 := ded_len l
    omega
  · have := sortI_up (ded_nodup l)
    rw [e, List.pairwise_map] at this
    exact this.imp fun h => by omega
end Pg
end

section
set_option linter.all false
set_option maxRecDepth 100000
set_option maxHeartbeats 1000000
namespace Pg
open PySem PySem.Spec L2 Mn
open TL (numL)
theorem ints_map : ∀ (l : List Int), intsM (l.map .int) = some l
  | [] => rfl
  | x :: r => by
    show (intsM (r.map .int)).map _ = _
    rw [ints_map r]
    rfl
def drwE : CE := .lc (.call 48 [.v 1, .k (.int 1000000)] [] false) (.one 16) 1 [.k (.int 4)] [] [16]
theorem draws (n : Nat) {s q : Nat} {h : MH} {x0 : MV} {x6 x7 x8 x9 x10 x11 x12 x13 x14 x15 x16 x17 x18 x19 x20 : Option MV} {y2 y3 y4 y5 : Option MV} (hst : StOk h s q) :
    ∃ (h' : MH) (ds : List Int), evE gs (cc (n + 1)) drwE [some x0, some (.ref s), y2, y3, y4, y5, x6, x7, x8, x9, x10, x11, x12, x13, x14, x15, x16, x17, x18, x19, x20] h = .ok (.ref h.length) h' ∧ Keep s h h' ∧ StOk h' s q ∧ h'[h.length]? = some (.lst (ds.map .int)) ∧ ds.length = 4 ∧ ∀ x ∈ ds, 0 ≤ x ∧ x < 1000000 := by
  have hs := hst.lt
  obtain ⟨acc, h', e, ds, i1, i2, i3, i4, i5, i6⟩ := lcC_inv (tg := .one 16) (it := .seq (rangeL 0 4)) (et := fun sm h => evIfC gs (cc (n + 1)) [] sm h) (ee := fun sm h => evE gs (cc (n + 1)) (.call 48 [.v 1, .k (.int 1000000)] [] false) sm h) (sm := wipeM [some x0, some (.ref s), y2, y3, y4, y5, x6, x7, x8, x9, x10, x11, x12, x13, x14, x15, x16, x17, x18, x19, x20] [16]) (D := h.length) 4
    (fun k acc H => ∃ ds : List Int, acc = ds.map .int ∧ H[h.length]? = some (.lst acc) ∧ ds.length = k ∧ (∀ x ∈ ds, 0 ≤ x ∧ x < 1000000) ∧ Keep s h H ∧ StOk H s q) (by
      rintro k acc H hk ⟨ds, j1, j2, j3, j4, j5, j6⟩
      refine ⟨.int k, _, by rw [at_rng, if_pos hk], rfl, true, H, rfl, fun _ => ?_, fun hb => by cases hb⟩
      obtain ⟨v, o, v0, v1, e1, e2⟩ := r48 n (lm := 1000000) j6 (by omega)
      refine ⟨.int v, H.set s o, ?_, ?_, ?_, ds ++ [v], ?_, ?_, ?_, ?_, ?_, ?_⟩
      · simp only [evB, evS, evE, evT, evEs, evBo, evBoT, evIfC, evP, evI, bind_ok, bind_ex, bind_err, then_ok, then_ex, then_err, opt_some, opt_none, gd_f, gd_ok, t_non, t_bl, t_int, t_tup, b_ii, b_sub, c_eq_i, c_ne_i, c_eq_s, c_ne_s, c_eq_b, c_ne_b, c_lt_i, c_gt_i, c_le_i, c_ge_i, m_lt_i, m_le_i, m_le_s, c_is_n, c_isn_n, c_is_b, c_isn_b, is_n, is_i, is_s, is_b, is_t, is_r, c_in_c, c_nin_c, l_t, i_i, o_c, ix_t, ty_n, ty_b, ty_i, ty_s, ty_t, isinM, asgC, setAll, List.map_cons, List.map_nil, List.cons_append, List.nil_append, List.length_cons, List.length_nil, List.replicate_succ, List.replicate_zero, List.getElem?_cons_zero, List.getElem?_cons_succ, List.getElem?_nil, List.set_cons_zero, List.set_cons_succ, if_true, if_false, Bool.not_true, Bool.not_false, Bool.false_eq_true, Option.map_some, Option.map_none, List.any_cons, List.any_nil, Bool.or_false, Bool.false_or, Bool.or_true, Bool.true_or, Bool.and_true, Bool.true_and, Bool.false_and, Bool.and_false, beq_self_eq_true, String.reduceBEq, decide_true, decide_false, Nat.reduceAdd, Nat.reduceSub, Nat.zero_add, Int.natAbs_natCast, and_self, true_and, and_true, List.isEmpty_cons, List.isEmpty_nil, Option.isSome_some, Option.isSome_none, List.append_nil, wipeM, e1]
      · rw [get_set_ne (by omega)]
        exact j2
      · rw [j1]
        simp
        unfold lim
        omega
      · rw [j1]
        simp
      · rw [get_set (o := .lst acc)]
        rw [get_set_ne (by omega)]
        exact j2
      · simp [j3]
      · intro c hc
        rcases List.mem_append.mp hc with hc | hc
        · exact j4 c hc
        · simp at hc
          omega
      · exact (j5.setS).put (Nat.le_refl _)
      · exact e2.put (by omega) (by omega)) (by
      rintro acc H ⟨cs, _⟩
      rw [at_rng, if_neg (Nat.lt_irrefl _)]) 4 0 5 [] (h ++ [.lst []]) (by omega) (by omega)
    ⟨[], rfl, by simp, rfl, (fun c hc => by cases hc), Keep.refl.app, hst.app⟩
  refine ⟨h', ds, ?_, i5, i6, by rw [i2, i1], i3, i4⟩
  unfold drwE
  rw [evE_lc (evI1 (h1 := h) (K := ((4 : Nat) : Int)) (it := .seq (rangeL 0 4)) (by simp only [evB, evS, evE, evT, evEs, evBo, evBoT, evIfC, evP, bind_ok, bind_ex, bind_err, then_ok, then_ex, then_err, opt_some, opt_none, gd_f, gd_ok, t_non, t_bl, t_int, t_tup, b_ii, b_sub, c_eq_i, c_ne_i, c_eq_s, c_ne_s, c_eq_b, c_ne_b, c_lt_i, c_gt_i, c_le_i, c_ge_i, m_lt_i, m_le_i, m_le_s, c_is_n, c_isn_n, c_is_b, c_isn_b, is_n, is_i, is_s, is_b, is_t, is_r, c_in_c, c_nin_c, l_t, i_i, o_c, ix_t, ty_n, ty_b, ty_i, ty_s, ty_t, isinM, asgC, setAll, List.map_cons, List.map_nil, List.cons_append, List.nil_append, List.length_cons, List.length_nil, List.replicate_succ, List.replicate_zero, List.getElem?_cons_zero, List.getElem?_cons_succ, List.getElem?_nil, List.set_cons_zero, List.set_cons_succ, if_true, if_false, Bool.not_true, Bool.not_false, Bool.false_eq_true, Option.map_some, Option.map_none, List.any_cons, List.any_nil, Bool.or_false, Bool.false_or, Bool.or_true, Bool.true_or, Bool.and_true, Bool.true_and, Bool.false_and, Bool.and_false, beq_self_eq_true, String.reduceBEq, decide_true, decide_false, Nat.reduceAdd, Nat.reduceSub, Nat.zero_add, Int.natAbs_natCast, and_self, true_and, and_true, List.isEmpty_cons, List.isEmpty_nil, Option.isSome_some, Option.isSome_none, List.append_nil]; rfl) (rng0 (by omega))), fuel_rng]
  exact e
def st1 : CS := .set 1 (.lst [.blt .list [.v 0], .k (.int 0), .k (.int 0), .k (.int 1)])
def st2 : CS := .set 2 (.sset (.bin .Add (.lst [.k (.int 0), .k (.int 1), .k (.int 9), .k (.int 10), .k (.int 99999), .k (.int 100000), .k (.int 999999)]) drwE))
theorem e_st1 (C : CallS) (ns : List Int) : evS gs C st1 [some (.sq (ns.map .int)), none, none, none, none, none, none, none, none, none, none, none, none, none, none, none, none, none, none, none, none] [] = .nx [some (.sq (ns.map .int)), some (.ref 1), none, none, none, none, none, none, none, none, none, none, none, none, none, none, none, none, none, none, none] [.lst (ns.map .int), .lst (stL 0 0 0 1)] := by
  have l4 : (4 : Nat) ≤ lim := by unfold lim; omega
  have li : bltM .list [] [.sq (ns.map .int)] = .ok (.ref 0) [.lst (ns.map .int)] := rfl
  unfold st1
  simp only [evB, evS, evE, evT, evEs, evBo, evBoT, evIfC, evP, evI, bind_ok, bind_ex, bind_err, then_ok, then_ex, then_err, opt_some, opt_none, gd_f, gd_ok, t_non, t_bl, t_int, t_tup, b_ii, b_sub, c_eq_i, c_ne_i, c_eq_s, c_ne_s, c_eq_b, c_ne_b, c_lt_i, c_gt_i, c_le_i, c_ge_i, m_lt_i, m_le_i, m_le_s, c_is_n, c_isn_n, c_is_b, c_isn_b, is_n, is_i, is_s, is_b, is_t, is_r, c_in_c, c_nin_c, l_t, i_i, o_c, ix_t, ty_n, ty_b, ty_i, ty_s, ty_t, isinM, asgC, setAll, List.map_cons, List.map_nil, List.cons_append, List.nil_append, List.length_cons, List.length_nil, List.replicate_succ, List.replicate_zero, List.getElem?_cons_zero, List.getElem?_cons_succ, List.getElem?_nil, List.set_cons_zero, List.set_cons_succ, if_true, if_false, Bool.not_true, Bool.not_false, Bool.false_eq_true, Option.map_some, Option.map_none, List.any_cons, List.any_nil, Bool.or_false, Bool.false_or, Bool.or_true, Bool.true_or, Bool.and_true, Bool.true_and, Bool.false_and, Bool.and_false, beq_self_eq_true, String.reduceBEq, decide_true, decide_false, Nat.reduceAdd, Nat.reduceSub, Nat.zero_add, Int.natAbs_natCast, and_self, true_and, and_true, List.isEmpty_cons, List.isEmpty_nil, Option.isSome_some, Option.isSome_none, List.append_nil, li, l4, lay]
  rfl
theorem st_first (ns : List Int) : StOk [.lst (ns.map .int), .lst (stL 0 0 0 1)] 1 0 := ⟨0, 0, 1, ns, rfl, rfl, by decide, by decide, by decide, by decide⟩
def sv7 : List Int := [0, 1, 9, 10, 99999, 100000, 999999]
theorem e_st2 (n : Nat) {s q : Nat} {h : MH} {x0 : MV} {x6 x7 x8 x9 x10 x11 x12 x13 x14 x15 x16 x17 x18 x19 x20 : Option MV} {y2 y3 y4 y5 : Option MV} (hst : StOk h s q) :
    ∃ (h' : MH) (b2 : Nat) (L : List Nat), evS gs (cc (n + 1)) st2 [some x0, some (.ref s), y2, y3, y4, y5, x6, x7, x8, x9, x10, x11, x12, x13, x14, x15, x16, x17, x18, x19, x20] h = .nx [some x0, some (.ref s), some (.ref b2), y3, y4, y5, x6, x7, x8, x9, x10, x11, x12, x13, x14, x15, x16, x17, x18, x19, x20] h' ∧ Keep s h h' ∧ StOk h' s q ∧ h.length ≤ b2 ∧ h'[b2]? = some (.lst (L.map fun k : Nat => .int k)) ∧ Up L := by
  obtain ⟨h1, ds, e1, k1, k2, k3, k4, k5⟩ := draws n (h := h ++ [.lst (sv7.map .int)]) (x0 := x0) (x6 := x6) (x7 := x7) (x8 := x8) (x9 := x9) (x10 := x10) (x11 := x11) (x12 := x12) (x13 := x13) (x14 := x14) (x15 := x15) (x16 := x16) (x17 := x17) (x18 := x18) (x19 := x19) (x20 := x20) (y2 := y2) (y3 := y3) (y4 := y4) (y5 := y5) hst.app
  have hs := hst.lt
  have a7 : h1[h.length]? = some (.lst (sv7.map .int)) := k1.get (by omega) get_new
  have add := b_ll a7 k3 (by simp [sv7, k4]; unfold lim; omega)
  obtain ⟨L, eL, uL⟩ := drawn (sv7 ++ ds) (by
    intro x hx
    rcases List.mem_append.mp hx with hx | hx
    · simp only [sv7, List.mem_cons, List.not_mem_nil, or_false] at hx
      omega
    · exact k5 x hx) (by simp [sv7, k4])
  have ss : setSort (h1 ++ [.lst (sv7.map .int ++ ds.map .int)]) (.ref h1.length) = .ok (.ref (h1.length + 1)) (h1 ++ [.lst (sv7.map .int ++ ds.map .int), .lst (L.map fun k : Nat => .int k)]) := by
    simp only [setSort, get_new]
    rw [← List.map_append, ints_map]
    dsimp only
    rw [if_pos (by simp [sv7, k4]), eL, List.map_map]
    simp [lay]
    try rfl
  have l7 : (7 : Nat) ≤ lim := by unfold lim; omega
  refine ⟨h1 ++ [MO.lst (sv7.map .int ++ ds.map .int), MO.lst (L.map fun k : Nat => .int k)], h1.length + 1, L, ?_, ?_, ?_, ?_, ?_, uL⟩
  rotate_left
  · exact (Keep.refl.app.trans k1).app
  · exact k2.app
  · have := k1.1
    simp at this
    omega
  · exact by simp
  · unfold st2
    unfold sv7 at *
    generalize drwE = N at e1 ⊢
    simp only [List.map_cons, List.map_nil, List.cons_append, List.nil_append, List.length_cons, List.length_nil] at e1 add ss ⊢
    simp only [evB, evS, evE, evT, evEs, evBo, evBoT, evIfC, evP, evI, bind_ok, bind_ex, bind_err, then_ok, then_ex, then_err, opt_some, opt_none, gd_f, gd_ok, t_non, t_bl, t_int, t_tup, b_ii, b_sub, c_eq_i, c_ne_i, c_eq_s, c_ne_s, c_eq_b, c_ne_b, c_lt_i, c_gt_i, c_le_i, c_ge_i, m_lt_i, m_le_i, m_le_s, c_is_n, c_isn_n, c_is_b, c_isn_b, is_n, is_i, is_s, is_b, is_t, is_r, c_in_c, c_nin_c, l_t, i_i, o_c, ix_t, ty_n, ty_b, ty_i, ty_s, ty_t, isinM, asgC, setAll, List.map_cons, List.map_nil, List.cons_append, List.nil_append, List.length_cons, List.length_nil, List.replicate_succ, List.replicate_zero, List.getElem?_cons_zero, List.getElem?_cons_succ, List.getElem?_nil, List.set_cons_zero, List.set_cons_succ, if_true, if_false, Bool.not_true, Bool.not_false, Bool.false_eq_true, Option.map_some, Option.map_none, List.any_cons, List.any_nil, Bool.or_false, Bool.false_or, Bool.or_true, Bool.true_or, Bool.and_true, Bool.true_and, Bool.false_and, Bool.and_false, beq_self_eq_true, String.reduceBEq, decide_true, decide_false, Nat.reduceAdd, Nat.reduceSub, Nat.zero_add, Int.natAbs_natCast, and_self, true_and, and_true, List.isEmpty_cons, List.isEmpty_nil, Option.isSome_some, Option.isSome_none, List.append_nil, l7, lay, e1, add, ss]
end Pg
end

section
set_option linter.all false
set_option maxRecDepth 100000
set_option maxHeartbeats 1000000
namespace Pg
open PySem PySem.Spec L2 Mn
open TL (numL)
/-! ### what stands behind the first statements -/
def LOG : List Nat := [108, 111, 103, 46]
def SNP : List Nat := [115, 110, 97, 112, 46]
def PGS : List Nat := [112, 97, 103, 101, 115, 46]
def nm (P : List Nat) (v : Nat) : List Nat := P ++ six v
def iL (L : List Nat) : List MV := L.map fun k : Nat => .int k
def nL (P : List Nat) (L : List Nat) : List MV := (L.map (nm P)).map .str
structure Wd (H : MH) (s q b2 b3 b4 b5 : Nat) (L : List Nat) : Prop where
  st : StOk H s q
  u : Up L
  e2 : H[b2]? = some (.lst (iL L))
  e3 : H[b3]? = some (.lst (nL LOG L))
  e4 : H[b4]? = some (.lst (nL SNP L))
  e5 : H[b5]? = some (.lst (nL PGS L))
  n2 : b2 ≠ s
  n3 : b3 ≠ s
  n4 : b4 ≠ s
  n5 : b5 ≠ s
section
variable {H H' : MH} {s q b2 b3 b4 b5 : Nat} {L : List Nat}
theorem Wd.keep (w : Wd H s q b2 b3 b4 b5 L) (k : Keep s H H') (t : StOk H' s q) : Wd H' s q b2 b3 b4 b5 L := ⟨t, w.u, k.get w.n2 w.e2, k.get w.n3 w.e3, k.get w.n4 w.e4, k.get w.n5 w.e5, w.n2, w.n3, w.n4, w.n5⟩
theorem Wd.ext (w : Wd H s q b2 b3 b4 b5 L) (x : Ext H H') : Wd H' s q b2 b3 b4 b5 L := by
  obtain ⟨g, rfl⟩ := x
  exact w.keep Keep.refl.app w.st.app
theorem Wd.app {g : MH} (w : Wd H s q b2 b3 b4 b5 L) : Wd (H ++ g) s q b2 b3 b4 b5 L := w.ext Ext.app
end
theorem iL_len (L : List Nat) : (iL L).length = L.length := by simp [iL]
theorem nL_len (P L : List Nat) : (nL P L).length = L.length := by simp [nL]
theorem nm_len {P : List Nat} {v : Nat} (h : v < 1000000) : (nm P v).length = P.length + 6 := by simp [nm, six_len h]
/-! ### lists that are the same -/
theorem eq_strs {h : MH} {a b : Nat} {ts : List (List Nat)} (ha : h[a]? = some (.lst (ts.map .str))) (hb : h[b]? = some (.lst (ts.map .str))) (hl : ts.length < 1000) : eqD 2 h (.ref a) (.ref b) := by
  refine .inr (.inr (.inr (.inr (.inr ⟨a, b, _, _, rfl, rfl, ha, hb, by simpa using hl, All2.same ?_⟩))))
  intro x hx
  obtain ⟨t, _, rfl⟩ := List.mem_map.mp hx
  exact .inr (.inr (.inr (.inl ⟨t, rfl, rfl⟩)))
theorem eq_ints {h : MH} {a b : Nat} {L : List Nat} (ha : h[a]? = some (.lst (iL L))) (hb : h[b]? = some (.lst (iL L))) (hl : L.length < 1000) : eqD 2 h (.ref a) (.ref b) := by
  refine .inr (.inr (.inr (.inr (.inr ⟨a, b, _, _, rfl, rfl, ha, hb, by rw [iL_len]; exact hl, All2.same ?_⟩))))
  intro x hx
  obtain ⟨t, _, rfl⟩ := List.mem_map.mp hx
  exact .inr (.inr (.inl ⟨t, rfl, rfl⟩))
theorem same_T {n m : Nat} {e e' : CE} {sm : MSt} {h h1 h2 : MH} {x y : MV} (he : evE gs (cc (n + m)) e sm h = .ok x h1) (hj : evE gs (cc (n + m)) e' sm h1 = .ok y h2) (hq : eqD n h2 x y) : evT gs (cc (n + m)) (.tnot (.tv (.call 49 [e, e'] [] false))) sm h = .ok false h2 := by
  have e := r49 n x y h2 m hq
  simp only [evB, evS, evE, evT, evEs, evBo, evBoT, evIfC, evP, evI, bind_ok, bind_ex, bind_err, then_ok, then_ex, then_err, opt_some, opt_none, gd_f, gd_ok, t_non, t_bl, t_int, t_tup, b_ii, b_sub, c_eq_i, c_ne_i, c_eq_s, c_ne_s, c_eq_b, c_ne_b, c_lt_i, c_gt_i, c_le_i, c_ge_i, m_lt_i, m_le_i, m_le_s, c_is_n, c_isn_n, c_is_b, c_isn_b, is_n, is_i, is_s, is_b, is_t, is_r, c_in_c, c_nin_c, l_t, i_i, o_c, ix_t, ty_n, ty_b, ty_i, ty_s, ty_t, isinM, asgC, setAll, List.map_cons, List.map_nil, List.cons_append, List.nil_append, List.length_cons, List.length_nil, List.replicate_succ, List.replicate_zero, List.getElem?_cons_zero, List.getElem?_cons_succ, List.getElem?_nil, List.set_cons_zero, List.set_cons_succ, if_true, if_false, Bool.not_true, Bool.not_false, Bool.false_eq_true, Option.map_some, Option.map_none, List.any_cons, List.any_nil, Bool.or_false, Bool.false_or, Bool.or_true, Bool.true_or, Bool.and_true, Bool.true_and, Bool.false_and, Bool.and_false, beq_self_eq_true, String.reduceBEq, decide_true, decide_false, Nat.reduceAdd, Nat.reduceSub, Nat.zero_add, Int.natAbs_natCast, and_self, true_and, and_true, List.isEmpty_cons, List.isEmpty_nil, Option.isSome_some, Option.isSome_none, List.append_nil, he, hj, e]
theorem or_f {C : CallS} {a : CE} {es : List CE} {sm : MSt} {h h1 h2 : MH} (e1 : evT gs C a sm h = .ok false h1) (e2 : evT gs C (.tbo .Or es) sm h1 = .ok false h2) (hn : es ≠ []) : evT gs C (.tbo .Or (a :: es)) sm h = .ok false h2 := by
  cases es with
  | nil => exact absurd rfl hn
  | cons b es =>
    simp only [evT] at e2 ⊢
    simp only [evBoT, e1, bind_ok]
    exact e2
theorem or_1 {C : CallS} {a : CE} {sm : MSt} {h h1 : MH} (e1 : evT gs C a sm h = .ok false h1) : evT gs C (.tbo .Or [a]) sm h = .ok false h1 := by
  simp only [evT, evBoT]
  exact e1
theorem ite_f {C : CallS} {t : CE} {a : List CS} {sm : MSt} {h h1 : MH} (e : evT gs C t sm h = .ok false h1) : evS gs C (.ite t a []) sm h = .nx sm h1 := by
  simp only [evS, e, then_ok, evB]
  rfl
/-! ### a listing of calls over a list -/
theorem calls_ev {C : CallS} {elt src : CE} {j : Nat} {sm : MSt} {h h1 : MH} {a : Nat} {α : Type} {xs : List α} (F G : α → MV) (hs : evE gs C src sm h = .ok (.ref a) h1) (ha : h1[a]? = some (.lst (xs.map F))) (hl : xs.length < 1000)
    (step : ∀ x ∈ xs, ∀ H, Ext h1 H → ∃ g, evE gs C elt ((wipeM sm [j]).set j (some (F x))) H = .ok (G x) (H ++ g)) :
    ∃ g, evE gs C (.lc elt (.one j) 0 [src] [] [j]) sm h = .ok (.ref h1.length) (h1 ++ .lst (xs.map G) :: g) := by
  have key : ∀ (m k : Nat) (acc : List MV) (g : MH), k + m = xs.length → acc = (xs.take k).map G → ∃ g2, lcC (fun sm h => evIfC gs C [] sm h) (fun sm h => evE gs C elt sm h) (.one j) (wipeM sm [j]) (.lst a) h1.length (m + 1) k (h1 ++ .lst acc :: g) = .ok (.ref h1.length) (h1 ++ .lst (xs.map G) :: g2) := by
    intro m
    induction m with
    | zero =>
      intro k acc g hk hacc
      refine ⟨g, ?_⟩
      unfold lcC
      rw [at_lst ha (h1 ++ .lst acc :: g) k Ext.app, List.getElem?_eq_none (by simp; omega)]
      rw [hacc, List.take_of_length_le (by omega)]
    | succ m ih =>
      intro k acc g hk hacc
      have hx : xs[k]? = some (xs[k]'(by omega)) := List.getElem?_eq_getElem _
      obtain ⟨g2, e2⟩ := step (xs[k]'(by omega)) (List.getElem_mem _) (h1 ++ .lst acc :: g) Ext.app
      have hacc2 : acc ++ [G (xs[k]'(by omega))] = (xs.take (k + 1)).map G := by
        rw [List.take_add_one, hx, List.map_append, hacc]
        rfl
      obtain ⟨g3, e3⟩ := ih (k + 1) (acc ++ [G (xs[k]'(by omega))]) (g ++ g2) (by omega) hacc2
      refine ⟨g3, ?_⟩
      have h3 : (h1 ++ MO.lst acc :: g ++ g2)[h1.length]? = some (.lst acc) := by simp
      have hal : acc.length < lim := by
        rw [hacc]
        simp
        unfold lim
        omega
      conv => lhs; unfold lcC
      rw [at_lst ha (h1 ++ .lst acc :: g) k Ext.app, List.getElem?_map, hx]
      simp only [Option.map_some, asgC, evIfC, noEx, bind_ok, if_true, e2, h3, if_pos hal]
      rw [show (h1 ++ MO.lst acc :: g ++ g2).set h1.length (MO.lst (acc ++ [G (xs[k]'(by omega))])) = h1 ++ MO.lst (acc ++ [G (xs[k]'(by omega))]) :: (g ++ g2) by simp]
      exact e3
  rw [evE_lc (evI_l hs ha), lf_l ha, List.length_map]
  exact key xs.length 0 [] [] (by omega) rfl
end Pg
end

section
set_option linter.all false
set_option maxRecDepth 100000
set_option maxHeartbeats 1000000
namespace Pg
open PySem PySem.Spec L2 Mn
open TL (numL)
def nmE (P : List Nat) : CE := .lc (.bin .Add (.k (.str P)) (.call 53 [.v 10] [] false)) (.one 10) 0 [.v 2] [] [10]
theorem e_nm (n : Nat) (P : List Nat) (hP : P.length ≤ 10) {sm : MSt} {H : MH} {b2 : Nat} {L : List Nat} (u : Up L) (e2 : H[b2]? = some (.lst (iL L))) (h2 : sm[2]? = some (some (.ref b2))) (h10 : 10 < sm.length) :
    ∃ g, evE gs (cc (n + 1)) (nmE P) sm H = .ok (.ref H.length) (H ++ .lst (nL P L) :: g) := by
  have e0 : evE gs (cc (n + 1)) (.v 2) sm H = .ok (.ref b2) H := by simp only [evE, h2]
  obtain ⟨g, e⟩ := calls_ev (C := cc (n + 1)) (elt := .bin .Add (.k (.str P)) (.call 53 [.v 10] [] false)) (j := 10) (fun k : Nat => .int k) (fun k => .str (nm P k)) e0 e2 (by have := u.1; omega) (by
    intro v hv H' _
    have hlt := u.2.1 v hv
    have l6 := six_len hlt
    have hsm : ((wipeM sm [10]).set 10 (some (.int (v : Nat))))[10]? = some (some (.int (v : Nat))) := List.getElem?_set_self (by simp [wipeM]; exact h10)
    refine ⟨[], ?_⟩
    generalize (wipeM sm [10]).set 10 (some (.int (v : Nat))) = sm2 at hsm ⊢
    have r := r53 n v H' hlt
    simp only [evB, evS, evE, evT, evEs, evBo, evBoT, evIfC, evP, evI, bind_ok, bind_ex, bind_err, then_ok, then_ex, then_err, opt_some, opt_none, gd_f, gd_ok, t_non, t_bl, t_int, t_tup, b_ii, b_sub, c_eq_i, c_ne_i, c_eq_s, c_ne_s, c_eq_b, c_ne_b, c_lt_i, c_gt_i, c_le_i, c_ge_i, m_lt_i, m_le_i, m_le_s, c_is_n, c_isn_n, c_is_b, c_isn_b, is_n, is_i, is_s, is_b, is_t, is_r, c_in_c, c_nin_c, l_t, i_i, o_c, ix_t, ty_n, ty_b, ty_i, ty_s, ty_t, isinM, asgC, setAll, List.map_cons, List.map_nil, List.cons_append, List.nil_append, List.length_cons, List.length_nil, List.replicate_succ, List.replicate_zero, List.getElem?_cons_zero, List.getElem?_cons_succ, List.getElem?_nil, List.set_cons_zero, List.set_cons_succ, if_true, if_false, Bool.not_true, Bool.not_false, Bool.false_eq_true, Option.map_some, Option.map_none, List.any_cons, List.any_nil, Bool.or_false, Bool.false_or, Bool.or_true, Bool.true_or, Bool.and_true, Bool.true_and, Bool.false_and, Bool.and_false, beq_self_eq_true, String.reduceBEq, decide_true, decide_false, Nat.reduceAdd, Nat.reduceSub, Nat.zero_add, Int.natAbs_natCast, and_self, true_and, and_true, List.isEmpty_cons, List.isEmpty_nil, Option.isSome_some, Option.isSome_none, List.append_nil, hsm, r]
    exact b_lim (by omega))
  refine ⟨g, ?_⟩
  unfold nmE nL
  rw [e, List.map_map]
  rfl
def st3 : CS := .set 3 (nmE [108, 111, 103, 46])
def st4 : CS := .set 4 (nmE [115, 110, 97, 112, 46])
def st5 : CS := .set 5 (nmE [112, 97, 103, 101, 115, 46])
theorem e_345 (n : Nat) {s q b2 : Nat} {H : MH} {L : List Nat} {x0 : MV} {x6 x7 x8 x9 x10 x11 x12 x13 x14 x15 x16 x17 x18 x19 x20 : Option MV} (st : StOk H s q) (u : Up L) (e2 : H[b2]? = some (.lst (iL L))) (n2 : b2 ≠ s) :
    ∃ H' b3 b4 b5, evB gs (cc (n + 1)) [st3, st4, st5] [some x0, some (.ref s), some (.ref b2), none, none, none, x6, x7, x8, x9, x10, x11, x12, x13, x14, x15, x16, x17, x18, x19, x20] H = .nx [some x0, some (.ref s), some (.ref b2), some (.ref b3), some (.ref b4), some (.ref b5), x6, x7, x8, x9, x10, x11, x12, x13, x14, x15, x16, x17, x18, x19, x20] H' ∧ Wd H' s q b2 b3 b4 b5 L := by
  obtain ⟨g1, a1⟩ := e_nm n [108, 111, 103, 46] (by decide) (sm := [some x0, some (.ref s), some (.ref b2), none, none, none, x6, x7, x8, x9, x10, x11, x12, x13, x14, x15, x16, x17, x18, x19, x20]) u e2 rfl (by simp)
  have m1 : (H ++ MO.lst (nL [108, 111, 103, 46] L) :: g1)[H.length]? = some (.lst (nL LOG L)) := get_mid
  generalize hH1 : H ++ MO.lst (nL [108, 111, 103, 46] L) :: g1 = H1 at a1 m1
  have x1 : Ext H H1 := hH1 ▸ Ext.app
  obtain ⟨g2, a2⟩ := e_nm n [115, 110, 97, 112, 46] (by decide) (sm := [some x0, some (.ref s), some (.ref b2), some (.ref H.length), none, none, x6, x7, x8, x9, x10, x11, x12, x13, x14, x15, x16, x17, x18, x19, x20]) u (x1.get e2) rfl (by simp)
  have m2 : (H1 ++ MO.lst (nL [115, 110, 97, 112, 46] L) :: g2)[H1.length]? = some (.lst (nL SNP L)) := get_mid
  generalize hH2 : H1 ++ MO.lst (nL [115, 110, 97, 112, 46] L) :: g2 = H2 at a2 m2
  have x2 : Ext H1 H2 := hH2 ▸ Ext.app
  obtain ⟨g3, a3⟩ := e_nm n [112, 97, 103, 101, 115, 46] (by decide) (sm := [some x0, some (.ref s), some (.ref b2), some (.ref H.length), some (.ref H1.length), none, x6, x7, x8, x9, x10, x11, x12, x13, x14, x15, x16, x17, x18, x19, x20]) u ((x1.trans x2).get e2) rfl (by simp)
  have m3 : (H2 ++ MO.lst (nL [112, 97, 103, 101, 115, 46] L) :: g3)[H2.length]? = some (.lst (nL PGS L)) := get_mid
  generalize hH3 : H2 ++ MO.lst (nL [112, 97, 103, 101, 115, 46] L) :: g3 = H3 at a3 m3
  have x3 : Ext H2 H3 := hH3 ▸ Ext.app
  have hs := st.lt.1
  have l1 := x1.len
  have l2 := x2.len
  have st' : StOk H3 s q := by
    obtain ⟨g, hg⟩ := (x1.trans x2).trans x3
    rw [hg]
    exact st.app
  refine ⟨H3, H.length, H1.length, H2.length, ?_, ⟨st', u, ((x1.trans x2).trans x3).get e2, (x2.trans x3).get m1, x3.get m2, m3, n2, by omega, by omega, by omega⟩⟩
  unfold st3 st4 st5
  generalize nmE [108, 111, 103, 46] = N1 at *
  generalize nmE [115, 110, 97, 112, 46] = N2 at *
  generalize nmE [112, 97, 103, 101, 115, 46] = N3 at *
  simp only [evB, evS, evE, evT, evEs, evBo, evBoT, evIfC, evP, evI, bind_ok, bind_ex, bind_err, then_ok, then_ex, then_err, opt_some, opt_none, gd_f, gd_ok, t_non, t_bl, t_int, t_tup, b_ii, b_sub, c_eq_i, c_ne_i, c_eq_s, c_ne_s, c_eq_b, c_ne_b, c_lt_i, c_gt_i, c_le_i, c_ge_i, m_lt_i, m_le_i, m_le_s, c_is_n, c_isn_n, c_is_b, c_isn_b, is_n, is_i, is_s, is_b, is_t, is_r, c_in_c, c_nin_c, l_t, i_i, o_c, ix_t, ty_n, ty_b, ty_i, ty_s, ty_t, isinM, asgC, setAll, List.map_cons, List.map_nil, List.cons_append, List.nil_append, List.length_cons, List.length_nil, List.replicate_succ, List.replicate_zero, List.getElem?_cons_zero, List.getElem?_cons_succ, List.getElem?_nil, List.set_cons_zero, List.set_cons_succ, if_true, if_false, Bool.not_true, Bool.not_false, Bool.false_eq_true, Option.map_some, Option.map_none, List.any_cons, List.any_nil, Bool.or_false, Bool.false_or, Bool.or_true, Bool.true_or, Bool.and_true, Bool.true_and, Bool.false_and, Bool.and_false, beq_self_eq_true, String.reduceBEq, decide_true, decide_false, Nat.reduceAdd, Nat.reduceSub, Nat.zero_add, Int.natAbs_natCast, and_self, true_and, and_true, List.isEmpty_cons, List.isEmpty_nil, Option.isSome_some, Option.isSome_none, List.append_nil, a1, a2, a3]
end Pg
end

section
set_option linter.all false
set_option maxRecDepth 100000
set_option maxHeartbeats 1000000
namespace Pg
open PySem PySem.Spec L2 Mn
open TL (numL)
theorem six_all (v : Nat) : ((six v).all fun c => decide (c ∈ DIG)) = true := by
  rw [List.all_eq_true]
  intro c hc
  have := six_dig (n := v) c hc
  simp [DIG]
  omega
theorem isP_nm {P : List Nat} {v : Nat} (h : v < 1000000) : isP P (nm P v) = true := by
  unfold isP nm
  simp only [List.take_left, List.drop_left, six_len h, six_all, beq_self_eq_true, decide_true, Bool.and_self]
theorem drop_nm (P : List Nat) (v : Nat) : (nm P v).drop P.length = six v := by
  unfold nm
  rw [List.drop_left]
theorem nm_lim {P : List Nat} {v : Nat} (hP : P.length ≤ 10) (h : v < 1000000) : (nm P v).length < lim := by
  rw [nm_len h]
  unfold lim
  omega
theorem t6 (n i j b b2 : Nat) (P : List Nat) (hc : ∀ v : Nat, v < 1000000 → ∀ H, cc (n + 3) i [.int v] H = .ok (.str (nm P v)) H) {sm : MSt} {H : MH} {L : List Nat} (u : Up L) (e2 : H[b2]? = some (.lst (iL L))) (h2 : sm[2]? = some (some (.ref b2))) (h10 : 10 < sm.length) (hj : sm[j]? = some (some (.ref b))) (eb : H[b]? = some (.lst (nL P L))) :
    ∃ g, evT gs (cc (n + 3)) (.tnot (.tv (.call 49 [.lc (.call i [.v 10] [] false) (.one 10) 0 [.v 2] [] [10], .v j] [] false))) sm H = .ok false (H ++ g) := by
  have e0 : evE gs (cc (n + 3)) (.v 2) sm H = .ok (.ref b2) H := by simp only [evE, h2]
  obtain ⟨g, e⟩ := calls_ev (C := cc (n + 3)) (elt := .call i [.v 10] [] false) (j := 10) (fun k : Nat => .int k) (fun k => .str (nm P k)) e0 e2 (by have := u.1; omega) (by
    intro v hv H' _
    have hsm : ((wipeM sm [10]).set 10 (some (.int (v : Nat))))[10]? = some (some (.int (v : Nat))) := List.getElem?_set_self (by simp [wipeM]; exact h10)
    refine ⟨[], ?_⟩
    generalize (wipeM sm [10]).set 10 (some (.int (v : Nat))) = sm2 at hsm ⊢
    simp only [evB, evS, evE, evT, evEs, evBo, evBoT, evIfC, evP, evI, bind_ok, bind_ex, bind_err, then_ok, then_ex, then_err, opt_some, opt_none, gd_f, gd_ok, t_non, t_bl, t_int, t_tup, b_ii, b_sub, c_eq_i, c_ne_i, c_eq_s, c_ne_s, c_eq_b, c_ne_b, c_lt_i, c_gt_i, c_le_i, c_ge_i, m_lt_i, m_le_i, m_le_s, c_is_n, c_isn_n, c_is_b, c_isn_b, is_n, is_i, is_s, is_b, is_t, is_r, c_in_c, c_nin_c, l_t, i_i, o_c, ix_t, ty_n, ty_b, ty_i, ty_s, ty_t, isinM, asgC, setAll, List.map_cons, List.map_nil, List.cons_append, List.nil_append, List.length_cons, List.length_nil, List.replicate_succ, List.replicate_zero, List.getElem?_cons_zero, List.getElem?_cons_succ, List.getElem?_nil, List.set_cons_zero, List.set_cons_succ, if_true, if_false, Bool.not_true, Bool.not_false, Bool.false_eq_true, Option.map_some, Option.map_none, List.any_cons, List.any_nil, Bool.or_false, Bool.false_or, Bool.or_true, Bool.true_or, Bool.and_true, Bool.true_and, Bool.false_and, Bool.and_false, beq_self_eq_true, String.reduceBEq, decide_true, decide_false, Nat.reduceAdd, Nat.reduceSub, Nat.zero_add, Int.natAbs_natCast, and_self, true_and, and_true, List.isEmpty_cons, List.isEmpty_nil, Option.isSome_some, Option.isSome_none, List.append_nil, hsm, hc v (u.2.1 v hv)])
  have ej : evE gs (cc (n + 3)) (.v j) sm (H ++ .lst (L.map fun k => .str (nm P k)) :: g) = .ok (.ref b) (H ++ .lst (L.map fun k => .str (nm P k)) :: g) := by simp only [evE, hj]
  have hm : (H ++ MO.lst (L.map fun k => .str (nm P k)) :: g)[H.length]? = some (.lst ((L.map (nm P)).map .str)) := by rw [get_mid, List.map_map]; rfl
  exact ⟨_, same_T (n := 2) (m := n + 1) (by rw [show 2 + (n + 1) = n + 3 by omega]; exact e) (by rw [show 2 + (n + 1) = n + 3 by omega]; exact ej) (eq_strs hm (Ext.app.get eb) (by have := u.1; simp; omega)) |> fun e => by rw [show 2 + (n + 1) = n + 3 by omega] at e; exact e⟩
theorem t7 (n i j b b2 : Nat) (P : List Nat) (hc : ∀ v : Nat, v < 1000000 → ∀ H, ∃ g, cc (n + 3) i [.str (nm P v)] H = .ok (.int v) (H ++ g)) {sm : MSt} {H : MH} {L : List Nat} (u : Up L) (e2 : H[b2]? = some (.lst (iL L))) (h2 : sm[2]? = some (some (.ref b2))) (h6 : 6 < sm.length) (hj : sm[j]? = some (some (.ref b))) (eb : H[b]? = some (.lst (nL P L))) :
    ∃ g, evT gs (cc (n + 3)) (.tnot (.tv (.call 49 [.lc (.call i [.v 6] [] false) (.one 6) 0 [.v j] [] [6], .v 2] [] false))) sm H = .ok false (H ++ g) := by
  have e0 : evE gs (cc (n + 3)) (.v j) sm H = .ok (.ref b) H := by simp only [evE, hj]
  have eb' : H[b]? = some (.lst (L.map fun k => .str (nm P k))) := by rw [eb]; unfold nL; rw [List.map_map]; rfl
  obtain ⟨g, e⟩ := calls_ev (C := cc (n + 3)) (elt := .call i [.v 6] [] false) (j := 6) (fun k => .str (nm P k)) (fun k : Nat => .int k) e0 eb' (by have := u.1; omega) (by
    intro v hv H' _
    have hsm : ((wipeM sm [6]).set 6 (some (.str (nm P v))))[6]? = some (some (.str (nm P v))) := List.getElem?_set_self (by simp [wipeM]; exact h6)
    obtain ⟨g, hg⟩ := hc v (u.2.1 v hv) H'
    refine ⟨g, ?_⟩
    generalize (wipeM sm [6]).set 6 (some (.str (nm P v))) = sm2 at hsm ⊢
    simp only [evB, evS, evE, evT, evEs, evBo, evBoT, evIfC, evP, evI, bind_ok, bind_ex, bind_err, then_ok, then_ex, then_err, opt_some, opt_none, gd_f, gd_ok, t_non, t_bl, t_int, t_tup, b_ii, b_sub, c_eq_i, c_ne_i, c_eq_s, c_ne_s, c_eq_b, c_ne_b, c_lt_i, c_gt_i, c_le_i, c_ge_i, m_lt_i, m_le_i, m_le_s, c_is_n, c_isn_n, c_is_b, c_isn_b, is_n, is_i, is_s, is_b, is_t, is_r, c_in_c, c_nin_c, l_t, i_i, o_c, ix_t, ty_n, ty_b, ty_i, ty_s, ty_t, isinM, asgC, setAll, List.map_cons, List.map_nil, List.cons_append, List.nil_append, List.length_cons, List.length_nil, List.replicate_succ, List.replicate_zero, List.getElem?_cons_zero, List.getElem?_cons_succ, List.getElem?_nil, List.set_cons_zero, List.set_cons_succ, if_true, if_false, Bool.not_true, Bool.not_false, Bool.false_eq_true, Option.map_some, Option.map_none, List.any_cons, List.any_nil, Bool.or_false, Bool.false_or, Bool.or_true, Bool.true_or, Bool.and_true, Bool.true_and, Bool.false_and, Bool.and_false, beq_self_eq_true, String.reduceBEq, decide_true, decide_false, Nat.reduceAdd, Nat.reduceSub, Nat.zero_add, Int.natAbs_natCast, and_self, true_and, and_true, List.isEmpty_cons, List.isEmpty_nil, Option.isSome_some, Option.isSome_none, List.append_nil, hsm, hg])
  have ej : evE gs (cc (n + 3)) (.v 2) sm (H ++ .lst (L.map fun k : Nat => .int k) :: g) = .ok (.ref b2) (H ++ .lst (L.map fun k : Nat => .int k) :: g) := by simp only [evE, h2]
  have hm : (H ++ MO.lst (L.map fun k : Nat => .int k) :: g)[H.length]? = some (.lst (iL L)) := by rw [get_mid]; rfl
  exact ⟨_, same_T (n := 2) (m := n + 1) (by rw [show 2 + (n + 1) = n + 3 by omega]; exact e) (by rw [show 2 + (n + 1) = n + 3 by omega]; exact ej) (eq_ints hm (Ext.app.get e2) (by have := u.1; omega)) |> fun e => by rw [show 2 + (n + 1) = n + 3 by omega] at e; exact e⟩
def st6 : CS := .ite (.tbo .Or [.tnot (.tv (.call 49 [.lc (.call 38 [.v 10] [] false) (.one 10) 0 [.v 2] [] [10], .v 3] [] false)), .tnot (.tv (.call 49 [.lc (.call 42 [.v 10] [] false) (.one 10) 0 [.v 2] [] [10], .v 4] [] false)), .tnot (.tv (.call 49 [.lc (.call 10 [.v 10] [] false) (.one 10) 0 [.v 2] [] [10], .v 5] [] false))]) [.rt (.k (.bl false))] []
def st7 : CS := .ite (.tbo .Or [.tnot (.tv (.call 49 [.lc (.call 41 [.v 6] [] false) (.one 6) 0 [.v 3] [] [6], .v 2] [] false)), .tnot (.tv (.call 49 [.lc (.call 45 [.v 6] [] false) (.one 6) 0 [.v 4] [] [6], .v 2] [] false))]) [.rt (.k (.bl false))] []
section
variable {s q b2 b3 b4 b5 : Nat} {H : MH} {L : List Nat} {x0 : MV} {x6 x7 x8 x9 x10 x11 x12 x13 x14 x15 x16 x17 x18 x19 x20 : Option MV}
theorem e_6 (n : Nat) (w : Wd H s q b2 b3 b4 b5 L) : ∃ H', evS gs (cc (n + 3)) st6 [some x0, some (.ref s), some (.ref b2), some (.ref b3), some (.ref b4), some (.ref b5), x6, x7, x8, x9, x10, x11, x12, x13, x14, x15, x16, x17, x18, x19, x20] H = .nx [some x0, some (.ref s), some (.ref b2), some (.ref b3), some (.ref b4), some (.ref b5), x6, x7, x8, x9, x10, x11, x12, x13, x14, x15, x16, x17, x18, x19, x20] H' ∧ Wd H' s q b2 b3 b4 b5 L := by
  obtain ⟨g1, f1⟩ := t6 n 38 3 b3 b2 LOG (fun v hv H => r38 n v H hv) (sm := [some x0, some (.ref s), some (.ref b2), some (.ref b3), some (.ref b4), some (.ref b5), x6, x7, x8, x9, x10, x11, x12, x13, x14, x15, x16, x17, x18, x19, x20]) w.u w.e2 rfl (by simp) rfl w.e3
  have w1 : Wd (H ++ g1) s q b2 b3 b4 b5 L := w.app
  obtain ⟨g2, f2⟩ := t6 n 42 4 b4 b2 SNP (fun v hv H => r42 n v H hv) (sm := [some x0, some (.ref s), some (.ref b2), some (.ref b3), some (.ref b4), some (.ref b5), x6, x7, x8, x9, x10, x11, x12, x13, x14, x15, x16, x17, x18, x19, x20]) w1.u w1.e2 rfl (by simp) rfl w1.e4
  have w2 : Wd (H ++ g1 ++ g2) s q b2 b3 b4 b5 L := w1.app
  obtain ⟨g3, f3⟩ := t6 n 10 5 b5 b2 PGS (fun v hv H => r10 n v H hv) (sm := [some x0, some (.ref s), some (.ref b2), some (.ref b3), some (.ref b4), some (.ref b5), x6, x7, x8, x9, x10, x11, x12, x13, x14, x15, x16, x17, x18, x19, x20]) w2.u w2.e2 rfl (by simp) rfl w2.e5
  exact ⟨_, ite_f (or_f f1 (or_f f2 (or_1 f3) (by simp)) (by simp)), w2.app⟩
theorem e_7 (n : Nat) (w : Wd H s q b2 b3 b4 b5 L) : ∃ H', evS gs (cc (n + 3)) st7 [some x0, some (.ref s), some (.ref b2), some (.ref b3), some (.ref b4), some (.ref b5), x6, x7, x8, x9, x10, x11, x12, x13, x14, x15, x16, x17, x18, x19, x20] H = .nx [some x0, some (.ref s), some (.ref b2), some (.ref b3), some (.ref b4), some (.ref b5), x6, x7, x8, x9, x10, x11, x12, x13, x14, x15, x16, x17, x18, x19, x20] H' ∧ Wd H' s q b2 b3 b4 b5 L := by
  obtain ⟨g1, f1⟩ := t7 n 41 3 b3 b2 LOG (fun v hv H => by
    obtain ⟨g, e⟩ := r41 (n + 1) (nm LOG v) H (nm_lim (by decide) hv) (isP_nm hv)
    rw [show (nm LOG v).drop 4 = six v from drop_nm LOG v, six_val] at e
    exact ⟨g, e⟩) (sm := [some x0, some (.ref s), some (.ref b2), some (.ref b3), some (.ref b4), some (.ref b5), x6, x7, x8, x9, x10, x11, x12, x13, x14, x15, x16, x17, x18, x19, x20]) w.u w.e2 rfl (by simp) rfl w.e3
  have w1 : Wd (H ++ g1) s q b2 b3 b4 b5 L := w.app
  obtain ⟨g2, f2⟩ := t7 n 45 4 b4 b2 SNP (fun v hv H => by
    obtain ⟨g, e⟩ := r45 (n + 1) (nm SNP v) H (nm_lim (by decide) hv) (isP_nm hv)
    rw [show (nm SNP v).drop 5 = six v from drop_nm SNP v, six_val] at e
    exact ⟨g, e⟩) (sm := [some x0, some (.ref s), some (.ref b2), some (.ref b3), some (.ref b4), some (.ref b5), x6, x7, x8, x9, x10, x11, x12, x13, x14, x15, x16, x17, x18, x19, x20]) w1.u w1.e2 rfl (by simp) rfl w1.e4
  exact ⟨_, ite_f (or_f f1 (or_1 f2) (by simp)), w1.app⟩
end
end Pg
end

section
set_option linter.all false
set_option maxRecDepth 100000
set_option maxHeartbeats 1000000
namespace Pg
open PySem PySem.Spec L2 Mn
open TL (numL)
/-! ### names in order -/
theorem sortS_up : ∀ {l : List (List Nat)}, l.Pairwise (· < ·) → sortS l = l
  | [], _ => rfl
  | x :: r, h => by
    rw [List.pairwise_cons] at h
    show insS x (sortS r) = _
    rw [sortS_up h.2]
    cases r with
    | nil => rfl
    | cons y r =>
      unfold insS
      rw [if_pos (List.le_of_lt (h.1 y List.mem_cons_self))]
theorem app_lt : ∀ (P : List Nat) {a b : List Nat}, a < b → P ++ a < P ++ b
  | [], _, _, h => h
  | c :: P, _, _, h => List.cons_lt_cons_iff.mpr (.inr ⟨rfl, app_lt P h⟩)
theorem nm_up {P : List Nat} {L : List Nat} (u : Up L) : (L.map (nm P)).Pairwise (· < ·) := by
  obtain ⟨_, h1, h2⟩ := u
  rw [List.pairwise_map]
  refine List.Pairwise.imp_of_mem ?_ h2
  intro a b ha hb hab
  exact app_lt P (six_lt (h1 a ha) (h1 b hb) hab)
theorem sorted_strs {h : MH} {a : Nat} {ts : List (List Nat)} (e : h[a]? = some (.lst (ts.map .str))) (hl : ts.length < 64) : bltM .sorted h [.ref a] = .ok (.ref h.length) (h ++ [.lst ((sortS ts).map .str)]) := by
  cases ts with
  | nil =>
    simp only [bltM, e]
    rfl
  | cons t ts =>
    have h1 : intsM ((t :: ts).map .str) = none := rfl
    have h2 := strs_map (t :: ts)
    simp only [bltM, e]
    rw [h1]
    dsimp only
    rw [h2]
    dsimp only
    rw [if_pos hl]
    rfl
def okT (t : List Nat) : Prop := ∀ c ∈ t, c < 1114112
theorem toD_strs (h : MH) (n : Nat) : ∀ {ts : List (List Nat)}, (∀ t ∈ ts, okT t) → mapO (toD h (n + 1)) (ts.map .str) = some (ts.map fun t => PyData.str ⟨t.toArray⟩)
  | [], _ => rfl
  | t :: ts, hk => by
    have h1 : (t.all fun c => decide (c < 1114112)) = true := by
      rw [List.all_eq_true]
      intro c hc
      simpa using hk t List.mem_cons_self c hc
    have h2 : toD h (n + 1) (.str t) = some (.str ⟨t.toArray⟩) := by
      unfold toD
      simp only [h1, if_true]
    have ih := toD_strs h n (ts := ts) fun t ht => hk t (List.mem_cons_of_mem _ ht)
    rw [List.map_cons]
    unfold mapO
    rw [h2]
    dsimp only
    rw [ih]
    rfl
theorem eqv_strs : ∀ (ts : List (List Nat)), PyData.eqvAll (ts.map fun t => PyData.str ⟨t.toArray⟩) (ts.map fun t => PyData.str ⟨t.toArray⟩) = true
  | [] => rfl
  | t :: ts => by
    simp only [List.map_cons, PyData.eqvAll, eqv_strs ts, Bool.and_true, PyData.eqv]
    exact beq_self_eq_true _
theorem ne_strs {h : MH} {a b : Nat} {ts : List (List Nat)} (ha : h[a]? = some (.lst (ts.map .str))) (hb : h[b]? = some (.lst (ts.map .str))) (hk : ∀ t ∈ ts, okT t) : cmpV .NotEq h (.ref a) (.ref b) = some false := by
  have h1 : isDict h (.ref b) = false := by simp only [isDict, hb]
  have h2 : toD h 30 (.ref a) = some (.list (ts.map fun t => PyData.str ⟨t.toArray⟩)) := by
    show (match h[a]? with
      | some (.lst xs) => (mapO (toD h 29) xs).map PyData.list
      | _ => none) = _
    rw [ha]
    show (mapO (toD h 29) (ts.map .str)).map PyData.list = _
    rw [toD_strs h 28 hk]
    rfl
  have h3 : toD h 30 (.ref b) = some (.list (ts.map fun t => PyData.str ⟨t.toArray⟩)) := by
    show (match h[b]? with
      | some (.lst xs) => (mapO (toD h 29) xs).map PyData.list
      | _ => none) = _
    rw [hb]
    show (mapO (toD h 29) (ts.map .str)).map PyData.list = _
    rw [toD_strs h 28 hk]
    rfl
  have h4 : eqM h (.ref a) (.ref b) = some true := by
    show (match toD h 30 (.ref a), toD h 30 (.ref b) with
      | some d, some e => some (PyData.eqv d e)
      | _, _ => none) = _
    rw [h2, h3]
    show some (PyData.eqvAll _ _) = _
    rw [eqv_strs]
  unfold cmpV
  rw [h1]
  simp only [Bool.false_eq_true, if_false]
  show (eqM h (.ref a) (.ref b)).map _ = _
  rw [h4]
  rfl
theorem six_ok (v : Nat) : okT (six v) := fun c hc => by have := six_dig (n := v) c hc; omega
theorem nm_ok {P : List Nat} (hP : okT P) (v : Nat) : okT (nm P v) := fun c hc => by
  rcases List.mem_append.mp hc with hc | hc
  · exact hP c hc
  · exact six_ok v c hc
theorem okLOG : okT LOG := by intro c hc; simp [LOG] at hc; omega
theorem okSNP : okT SNP := by intro c hc; simp [SNP] at hc; omega
theorem okPGS : okT PGS := by intro c hc; simp [PGS] at hc; omega
def st8 : CS := .ite (.tcmp .NotEq (.lc (.v 14) (.one 14) 0 [.lst [.v 3, .v 4, .v 5]] [.tcmp .NotEq (.v 14) (.blt .sorted [.v 14])] [14]) (.lst [])) [.rt (.k (.bl false))] []
theorem nL_ne {P L : List Nat} (hP : okT P) (u : Up L) {h : MH} {b : Nat} (e : h[b]? = some (.lst (nL P L))) : ∃ g, bltM .sorted h [.ref b] = .ok (.ref h.length) (h ++ g) ∧ cmpV .NotEq (h ++ g) (.ref b) (.ref h.length) = some false := by
  have hs := sorted_strs (ts := L.map (nm P)) e (by have := u.1; simp; omega)
  rw [sortS_up (nm_up u)] at hs
  refine ⟨_, hs, ne_strs (ts := L.map (nm P)) (Ext.app.get e) get_new ?_⟩
  intro t ht
  obtain ⟨v, _, rfl⟩ := List.mem_map.mp ht
  exact nm_ok hP v
section
variable {s q b2 b3 b4 b5 : Nat} {H : MH} {L : List Nat} {x0 : MV} {x6 x7 x8 x9 x10 x11 x12 x13 x14 x15 x16 x17 x18 x19 x20 : Option MV}
theorem e_8 (C : CallS) (w : Wd H s q b2 b3 b4 b5 L) : ∃ H', evS gs C st8 [some x0, some (.ref s), some (.ref b2), some (.ref b3), some (.ref b4), some (.ref b5), x6, x7, x8, x9, x10, x11, x12, x13, x14, x15, x16, x17, x18, x19, x20] H = .nx [some x0, some (.ref s), some (.ref b2), some (.ref b3), some (.ref b4), some (.ref b5), x6, x7, x8, x9, x10, x11, x12, x13, x14, x15, x16, x17, x18, x19, x20] H' ∧ Wd H' s q b2 b3 b4 b5 L := by
  have l3 : (3 : Nat) ≤ lim := by unfold lim; omega
  have l0 : (0 : Nat) ≤ lim := by unfold lim; omega
  have w1 : Wd (H ++ [.lst [.ref b3, .ref b4, .ref b5]]) s q b2 b3 b4 b5 L := w.app
  have e0 : evE gs C (.lst [.v 3, .v 4, .v 5]) [some x0, some (.ref s), some (.ref b2), some (.ref b3), some (.ref b4), some (.ref b5), x6, x7, x8, x9, x10, x11, x12, x13, x14, x15, x16, x17, x18, x19, x20] H = .ok (.ref H.length) (H ++ [.lst [.ref b3, .ref b4, .ref b5]]) := by simp only [evB, evS, evE, evT, evEs, evBo, evBoT, evIfC, evP, evI, bind_ok, bind_ex, bind_err, then_ok, then_ex, then_err, opt_some, opt_none, gd_f, gd_ok, t_non, t_bl, t_int, t_tup, b_ii, b_sub, c_eq_i, c_ne_i, c_eq_s, c_ne_s, c_eq_b, c_ne_b, c_lt_i, c_gt_i, c_le_i, c_ge_i, m_lt_i, m_le_i, m_le_s, c_is_n, c_isn_n, c_is_b, c_isn_b, is_n, is_i, is_s, is_b, is_t, is_r, c_in_c, c_nin_c, l_t, i_i, o_c, ix_t, ty_n, ty_b, ty_i, ty_s, ty_t, isinM, asgC, setAll, List.map_cons, List.map_nil, List.cons_append, List.nil_append, List.length_cons, List.length_nil, List.replicate_succ, List.replicate_zero, List.getElem?_cons_zero, List.getElem?_cons_succ, List.getElem?_nil, List.set_cons_zero, List.set_cons_succ, if_true, if_false, Bool.not_true, Bool.not_false, Bool.false_eq_true, Option.map_some, Option.map_none, List.any_cons, List.any_nil, Bool.or_false, Bool.false_or, Bool.or_true, Bool.true_or, Bool.and_true, Bool.true_and, Bool.false_and, Bool.and_false, beq_self_eq_true, String.reduceBEq, decide_true, decide_false, Nat.reduceAdd, Nat.reduceSub, Nat.zero_add, Int.natAbs_natCast, and_self, true_and, and_true, List.isEmpty_cons, List.isEmpty_nil, Option.isSome_some, Option.isSome_none, List.append_nil, l3, lay]
  obtain ⟨g, e⟩ := lc_fm (C := C) (elt := .v 14) (tg := .one 14) (ifs := [.tcmp .NotEq (.v 14) (.blt .sorted [.v 14])]) (own := [14]) (xs := [.ref b3, .ref b4, .ref b5]) (fun _ => none) (evI_l e0 get_new) (lf_l get_new) (by simp) (fun H k x => at_lst get_new H k x) (by
    intro x hx
    have key : ∀ (P : List Nat) (b : Nat), okT P → (H ++ [MO.lst [.ref b3, .ref b4, .ref b5]])[b]? = some (.lst (nL P L)) → ∃ sm2, asgC (.one 14) (.ref b) (wipeM [some x0, some (.ref s), some (.ref b2), some (.ref b3), some (.ref b4), some (.ref b5), x6, x7, x8, x9, x10, x11, x12, x13, x14, x15, x16, x17, x18, x19, x20] [14]) = some sm2 ∧ ∀ H2, Ext (H ++ [MO.lst [.ref b3, .ref b4, .ref b5]]) H2 → ∃ bb g2, evIfC gs C [.tcmp .NotEq (.v 14) (.blt .sorted [.v 14])] sm2 H2 = .ok bb (H2 ++ g2) ∧ (bb = true → ∃ y g3, evE gs C (.v 14) sm2 (H2 ++ g2) = .ok y (H2 ++ g2 ++ g3) ∧ (none : Option MV) = some y) ∧ (bb = false → (none : Option MV) = none) := by
      intro P b hP hb
      refine ⟨[some x0, some (.ref s), some (.ref b2), some (.ref b3), some (.ref b4), some (.ref b5), x6, x7, x8, x9, x10, x11, x12, x13, some (.ref b), x15, x16, x17, x18, x19, x20], rfl, fun H2 x2 => ?_⟩
      obtain ⟨g2, f1, f2⟩ := nL_ne hP w.u (x2.get hb)
      refine ⟨false, g2, ?_, fun h => (by cases h), fun _ => rfl⟩
      simp only [evB, evS, evE, evT, evEs, evBo, evBoT, evIfC, evP, evI, bind_ok, bind_ex, bind_err, then_ok, then_ex, then_err, opt_some, opt_none, gd_f, gd_ok, t_non, t_bl, t_int, t_tup, b_ii, b_sub, c_eq_i, c_ne_i, c_eq_s, c_ne_s, c_eq_b, c_ne_b, c_lt_i, c_gt_i, c_le_i, c_ge_i, m_lt_i, m_le_i, m_le_s, c_is_n, c_isn_n, c_is_b, c_isn_b, is_n, is_i, is_s, is_b, is_t, is_r, c_in_c, c_nin_c, l_t, i_i, o_c, ix_t, ty_n, ty_b, ty_i, ty_s, ty_t, isinM, asgC, setAll, List.map_cons, List.map_nil, List.cons_append, List.nil_append, List.length_cons, List.length_nil, List.replicate_succ, List.replicate_zero, List.getElem?_cons_zero, List.getElem?_cons_succ, List.getElem?_nil, List.set_cons_zero, List.set_cons_succ, if_true, if_false, Bool.not_true, Bool.not_false, Bool.false_eq_true, Option.map_some, Option.map_none, List.any_cons, List.any_nil, Bool.or_false, Bool.false_or, Bool.or_true, Bool.true_or, Bool.and_true, Bool.true_and, Bool.false_and, Bool.and_false, beq_self_eq_true, String.reduceBEq, decide_true, decide_false, Nat.reduceAdd, Nat.reduceSub, Nat.zero_add, Int.natAbs_natCast, and_self, true_and, and_true, List.isEmpty_cons, List.isEmpty_nil, Option.isSome_some, Option.isSome_none, List.append_nil, f1, f2]
    simp only [List.mem_cons, List.not_mem_nil, or_false] at hx
    rcases hx with rfl | rfl | rfl
    · exact key LOG b3 okLOG w1.e3
    · exact key SNP b4 okSNP w1.e4
    · exact key PGS b5 okPGS w1.e5)
  have en : ([MV.ref b3, .ref b4, .ref b5]).filterMap (fun _ => (none : Option MV)) = [] := rfl
  rw [en] at e
  generalize hD : (H ++ [MO.lst [MV.ref b3, .ref b4, .ref b5]]).length = D at e
  have hD1 : (H ++ [MO.lst [MV.ref b3, .ref b4, .ref b5]] ++ MO.lst [] :: g)[D]? = some (.lst []) := by rw [← hD]; exact get_mid
  have w2 : Wd (H ++ [MO.lst [MV.ref b3, .ref b4, .ref b5]] ++ MO.lst [] :: g) s q b2 b3 b4 b5 L := w1.app
  generalize H ++ [MO.lst [MV.ref b3, .ref b4, .ref b5]] ++ MO.lst [] :: g = H2 at *
  have ne := ne_strs (h := H2 ++ [MO.lst []]) (a := D) (b := H2.length) (ts := []) (Ext.app.get hD1) get_new (fun t ht => by cases ht)
  refine ⟨H2 ++ [MO.lst []], ?_, w2.app⟩
  unfold st8
  generalize (CE.lc (.v 14) (.one 14) 0 [.lst [.v 3, .v 4, .v 5]] [.tcmp .NotEq (.v 14) (.blt .sorted [.v 14])] [14]) = N at e ⊢
  simp only [evB, evS, evE, evT, evEs, evBo, evBoT, evIfC, evP, evI, bind_ok, bind_ex, bind_err, then_ok, then_ex, then_err, opt_some, opt_none, gd_f, gd_ok, t_non, t_bl, t_int, t_tup, b_ii, b_sub, c_eq_i, c_ne_i, c_eq_s, c_ne_s, c_eq_b, c_ne_b, c_lt_i, c_gt_i, c_le_i, c_ge_i, m_lt_i, m_le_i, m_le_s, c_is_n, c_isn_n, c_is_b, c_isn_b, is_n, is_i, is_s, is_b, is_t, is_r, c_in_c, c_nin_c, l_t, i_i, o_c, ix_t, ty_n, ty_b, ty_i, ty_s, ty_t, isinM, asgC, setAll, List.map_cons, List.map_nil, List.cons_append, List.nil_append, List.length_cons, List.length_nil, List.replicate_succ, List.replicate_zero, List.getElem?_cons_zero, List.getElem?_cons_succ, List.getElem?_nil, List.set_cons_zero, List.set_cons_succ, if_true, if_false, Bool.not_true, Bool.not_false, Bool.false_eq_true, Option.map_some, Option.map_none, List.any_cons, List.any_nil, Bool.or_false, Bool.false_or, Bool.or_true, Bool.true_or, Bool.and_true, Bool.true_and, Bool.false_and, Bool.and_false, beq_self_eq_true, String.reduceBEq, decide_true, decide_false, Nat.reduceAdd, Nat.reduceSub, Nat.zero_add, Int.natAbs_natCast, and_self, true_and, and_true, List.isEmpty_cons, List.isEmpty_nil, Option.isSome_some, Option.isSome_none, List.append_nil, e, l0, lay, ne]
end
end Pg
end

section
set_option linter.all false
set_option maxRecDepth 100000
set_option maxHeartbeats 1000000
namespace Pg
open PySem PySem.Spec L2 Mn
open TL (numL)
/-! ### each kind takes its own names alone -/
def tri (L : List Nat) : List (List Nat) := L.map (nm LOG) ++ L.map (nm SNP) ++ L.map (nm PGS)
theorem x_ls (v : Nat) : isP LOG (nm SNP v) = false := by simp [isP, nm, LOG, SNP]
theorem x_lp (v : Nat) : isP LOG (nm PGS v) = false := by simp [isP, nm, LOG, PGS]
theorem x_sl (v : Nat) : isP SNP (nm LOG v) = false := by simp [isP, nm, LOG, SNP]
theorem x_sp (v : Nat) : isP SNP (nm PGS v) = false := by simp [isP, nm, PGS, SNP]
theorem x_pl (v : Nat) : isP PGS (nm LOG v) = false := by simp [isP, nm, LOG, PGS]
theorem x_ps (v : Nat) : isP PGS (nm SNP v) = false := by simp [isP, nm, SNP, PGS]
theorem n_nm {P Q : List Nat} {v : Nat} {L : List Nat} (u : Up L) (hq : isP Q (nm P v) = false) : nm P v ∉ L.map (nm Q) := by
  intro h
  obtain ⟨k, hk, e⟩ := List.mem_map.mp h
  rw [← e, isP_nm (u.2.1 k hk)] at hq
  cases hq
theorem tri_is {L : List Nat} (u : Up L) {t : List Nat} (ht : t ∈ tri L) : isP LOG t = decide (t ∈ L.map (nm LOG)) ∧ isP SNP t = decide (t ∈ L.map (nm SNP)) ∧ isP PGS t = decide (t ∈ L.map (nm PGS)) := by
  have yes : ∀ {P : List Nat} {v : Nat}, v ∈ L → isP P (nm P v) = decide (nm P v ∈ L.map (nm P)) := fun {P v} hv => by
    rw [isP_nm (u.2.1 v hv)]
    simp only [List.mem_map_of_mem hv, decide_true]
  have no : ∀ {P Q : List Nat} {v : Nat}, isP Q (nm P v) = false → isP Q (nm P v) = decide (nm P v ∈ L.map (nm Q)) := fun {P Q v} h => by
    rw [h]
    simp only [n_nm u h, decide_false]
  rcases List.mem_append.mp ht with ht | ht
  · rcases List.mem_append.mp ht with ht | ht
    · obtain ⟨v, hv, rfl⟩ := List.mem_map.mp ht
      exact ⟨yes hv, no (x_sl v), no (x_pl v)⟩
    · obtain ⟨v, hv, rfl⟩ := List.mem_map.mp ht
      exact ⟨no (x_ls v), yes hv, no (x_ps v)⟩
  · obtain ⟨v, hv, rfl⟩ := List.mem_map.mp ht
    exact ⟨no (x_lp v), no (x_sp v), yes hv⟩
theorem tri_len {L : List Nat} (u : Up L) {t : List Nat} (ht : t ∈ tri L) : t.length ≤ 12 ∧ okT t ∧ t ≠ [] := by
  have go : ∀ (P : List Nat), P.length ≤ 6 → okT P → ∀ v ∈ L, (nm P v).length ≤ 12 ∧ okT (nm P v) ∧ nm P v ≠ [] := fun P hP oP v hv => by
    have := nm_len (P := P) (u.2.1 v hv)
    refine ⟨by omega, nm_ok oP v, fun z => ?_⟩
    rw [z] at this
    simp at this
  rcases List.mem_append.mp ht with ht | ht
  · rcases List.mem_append.mp ht with ht | ht
    · obtain ⟨v, hv, rfl⟩ := List.mem_map.mp ht
      exact go LOG (by decide) okLOG v hv
    · obtain ⟨v, hv, rfl⟩ := List.mem_map.mp ht
      exact go SNP (by decide) okSNP v hv
  · obtain ⟨v, hv, rfl⟩ := List.mem_map.mp ht
    exact go PGS (by decide) okPGS v hv
def triE : CE := .bin .Add (.bin .Add (.v 3) (.v 4)) (.v 5)
def b9 : List CS := [.ite (.tbo .Or [.tcmp .NotEq (.call 40 [.v 6] [] false) (.cmp .In (.v 6) (.v 3)), .tcmp .NotEq (.call 43 [.v 6] [] false) (.cmp .In (.v 6) (.v 4)), .tcmp .NotEq (.call 11 [.v 6] [] false) (.cmp .In (.v 6) (.v 5))]) [.rt (.k (.bl false))] []]
def st9 : CS := .for_ (.one 6) 0 [triE] b9
/-- a loop over a list that always goes on, and only adds -/
theorem for_l {C : CallS} {j : Nat} {src : CE} {b : List CS} {sm : MSt} {h h1 : MH} {a : Nat} {xs : List MV} (K : MSt → Prop) (hs : evE gs C src sm h = .ok (.ref a) h1) (ha : h1[a]? = some (.lst xs)) (h0 : K sm)
    (step : ∀ x ∈ xs, ∀ sm H, K sm → Ext h1 H → ∃ sm2 g, (evB gs C b (sm.set j (some x)) H = .nx sm2 (H ++ g) ∨ evB gs C b (sm.set j (some x)) H = .ct sm2 (H ++ g)) ∧ K sm2) :
    ∃ sm' g, evS gs C (.for_ (.one j) 0 [src] b) sm h = .nx sm' (h1 ++ g) ∧ K sm' := by
  obtain ⟨sm', h', e, i1, g, i2⟩ := forC_run (tg := .one j) (it := .lst a) (b := fun sm h => evB gs C b sm h) xs.length (fun _ sm H => K sm ∧ Ext h1 H) (m := xs.length + 1) (sm := sm) (h := h1) (Nat.lt_succ_self _) ⟨h0, Ext.refl⟩ (by
    rintro k sm H hk ⟨i1, i2⟩
    have hx : xs[k]? = some xs[k] := List.getElem?_eq_getElem hk
    obtain ⟨sm2, g, e1, e2⟩ := step xs[k] (List.getElem_mem hk) sm H i1 i2
    exact ⟨xs[k], _, by rw [at_lst ha H k i2, hx], rfl, sm2, _, e1, e2, i2.trans Ext.app⟩) (by
    rintro sm H ⟨i1, i2⟩
    rw [at_lst ha H _ i2, List.getElem?_eq_none (Nat.le_refl _)])
  refine ⟨sm', g, ?_, i1⟩
  rw [evS_for (evI_l hs ha), lf_l ha, e, i2]
section
variable {s q b2 b3 b4 b5 : Nat} {H : MH} {L : List Nat} {x0 : MV} {x6 x7 x8 x9 x10 x11 x12 x13 x14 x15 x16 x17 x18 x19 x20 : Option MV}
theorem tri_ev (C : CallS) (w : Wd H s q b2 b3 b4 b5 L) : ∃ a g, evE gs C triE [some x0, some (.ref s), some (.ref b2), some (.ref b3), some (.ref b4), some (.ref b5), x6, x7, x8, x9, x10, x11, x12, x13, x14, x15, x16, x17, x18, x19, x20] H = .ok (.ref a) (H ++ g) ∧ (H ++ g)[a]? = some (.lst ((tri L).map .str)) := by
  have hl := w.u.1
  have a1 := b_ll w.e3 w.e4 (by simp [nL]; unfold lim; omega)
  have a2 := b_ll (h := H ++ [.lst (nL LOG L ++ nL SNP L)]) (a := H.length) (b := b5) get_new (Ext.app.get w.e5) (by simp [nL]; unfold lim; omega)
  refine ⟨(H ++ [MO.lst (nL LOG L ++ nL SNP L)]).length, [MO.lst (nL LOG L ++ nL SNP L)] ++ [MO.lst (nL LOG L ++ nL SNP L ++ nL PGS L)], ?_, ?_⟩
  · unfold triE
    simp only [evE, List.getElem?_cons_zero, List.getElem?_cons_succ, bind_ok, a1, a2]
    rw [← List.append_assoc]
  · rw [← List.append_assoc, get_new]
    unfold tri nL
    rw [List.map_append, List.map_append]
end
section
variable {s q b2 b3 b4 b5 : Nat} {H : MH} {L : List Nat} {x0 : MV} {x6 x7 x8 x9 x10 x11 x12 x13 x14 x15 x16 x17 x18 x19 x20 : Option MV}
theorem e_9b (n : Nat) (w : Wd H s q b2 b3 b4 b5 L) {t : List Nat} (ht : t ∈ tri L) : ∃ g, evB gs (cc (n + 1)) b9 [some x0, some (.ref s), some (.ref b2), some (.ref b3), some (.ref b4), some (.ref b5), some (.str t), x7, x8, x9, x10, x11, x12, x13, x14, x15, x16, x17, x18, x19, x20] H = .nx [some x0, some (.ref s), some (.ref b2), some (.ref b3), some (.ref b4), some (.ref b5), some (.str t), x7, x8, x9, x10, x11, x12, x13, x14, x15, x16, x17, x18, x19, x20] (H ++ g) := by
  obtain ⟨p1, p2, p3⟩ := tri_is w.u ht
  have hl : t.length < lim := by have := (tri_len w.u ht).1; unfold lim; omega
  obtain ⟨g1, f1⟩ := r40 n t H hl
  have w1 : Wd (H ++ g1) s q b2 b3 b4 b5 L := w.app
  have c1 := c_in_l (w := t) (ts := L.map (nm LOG)) w1.e3
  obtain ⟨g2, f2⟩ := r43 n t (H ++ g1) hl
  have w2 : Wd (H ++ g1 ++ g2) s q b2 b3 b4 b5 L := w1.app
  have c2 := c_in_l (w := t) (ts := L.map (nm SNP)) w2.e4
  obtain ⟨g3, f3⟩ := r11 n t (H ++ g1 ++ g2) hl
  have w3 : Wd (H ++ g1 ++ g2 ++ g3) s q b2 b3 b4 b5 L := w2.app
  have c3 := c_in_l (w := t) (ts := L.map (nm PGS)) w3.e5
  have q1 : isP [108, 111, 103, 46] t = decide (t ∈ L.map (nm LOG)) := p1
  have q2 : isP [115, 110, 97, 112, 46] t = decide (t ∈ L.map (nm SNP)) := p2
  have q3 : isP [112, 97, 103, 101, 115, 46] t = decide (t ∈ L.map (nm PGS)) := p3
  rw [q1] at f1
  rw [q2] at f2
  rw [q3] at f3
  refine ⟨g1 ++ g2 ++ g3, ?_⟩
  generalize decide (t ∈ L.map (nm LOG)) = B1 at *
  generalize decide (t ∈ L.map (nm SNP)) = B2 at *
  generalize decide (t ∈ L.map (nm PGS)) = B3 at *
  unfold b9
  simp only [evB, evS, evE, evT, evEs, evBo, evBoT, evIfC, evP, evI, bind_ok, bind_ex, bind_err, then_ok, then_ex, then_err, opt_some, opt_none, gd_f, gd_ok, t_non, t_bl, t_int, t_tup, b_ii, b_sub, c_eq_i, c_ne_i, c_eq_s, c_ne_s, c_eq_b, c_ne_b, c_lt_i, c_gt_i, c_le_i, c_ge_i, m_lt_i, m_le_i, m_le_s, c_is_n, c_isn_n, c_is_b, c_isn_b, is_n, is_i, is_s, is_b, is_t, is_r, c_in_c, c_nin_c, l_t, i_i, o_c, ix_t, ty_n, ty_b, ty_i, ty_s, ty_t, isinM, asgC, setAll, List.map_cons, List.map_nil, List.cons_append, List.nil_append, List.length_cons, List.length_nil, List.replicate_succ, List.replicate_zero, List.getElem?_cons_zero, List.getElem?_cons_succ, List.getElem?_nil, List.set_cons_zero, List.set_cons_succ, if_true, if_false, Bool.not_true, Bool.not_false, Bool.false_eq_true, Option.map_some, Option.map_none, List.any_cons, List.any_nil, Bool.or_false, Bool.false_or, Bool.or_true, Bool.true_or, Bool.and_true, Bool.true_and, Bool.false_and, Bool.and_false, beq_self_eq_true, String.reduceBEq, decide_true, decide_false, Nat.reduceAdd, Nat.reduceSub, Nat.zero_add, Int.natAbs_natCast, and_self, true_and, and_true, List.isEmpty_cons, List.isEmpty_nil, Option.isSome_some, Option.isSome_none, List.append_nil, f1, c1, f2, c2, f3, c3]
  simp only [List.append_assoc]
theorem e_9 (n : Nat) (w : Wd H s q b2 b3 b4 b5 L) : ∃ z6 H', evS gs (cc (n + 1)) st9 [some x0, some (.ref s), some (.ref b2), some (.ref b3), some (.ref b4), some (.ref b5), x6, x7, x8, x9, x10, x11, x12, x13, x14, x15, x16, x17, x18, x19, x20] H = .nx [some x0, some (.ref s), some (.ref b2), some (.ref b3), some (.ref b4), some (.ref b5), z6, x7, x8, x9, x10, x11, x12, x13, x14, x15, x16, x17, x18, x19, x20] H' ∧ Wd H' s q b2 b3 b4 b5 L := by
  obtain ⟨a, g, e, ea⟩ := tri_ev (x0 := x0) (x6 := x6) (x7 := x7) (x8 := x8) (x9 := x9) (x10 := x10) (x11 := x11) (x12 := x12) (x13 := x13) (x14 := x14) (x15 := x15) (x16 := x16) (x17 := x17) (x18 := x18) (x19 := x19) (x20 := x20) (cc (n + 1)) w
  obtain ⟨sm', g2, e2, z6, hz⟩ := for_l (j := 6) (b := b9) (fun sm => ∃ z6, sm = [some x0, some (.ref s), some (.ref b2), some (.ref b3), some (.ref b4), some (.ref b5), z6, x7, x8, x9, x10, x11, x12, x13, x14, x15, x16, x17, x18, x19, x20]) e ea ⟨x6, rfl⟩ (by
    rintro x hx sm H2 ⟨z6, rfl⟩ hH
    obtain ⟨t, ht, rfl⟩ := List.mem_map.mp hx
    obtain ⟨g3, e3⟩ := e_9b n ((w.app (g := g)).ext hH) ht
    exact ⟨_, g3, .inl e3, some (.str t), rfl⟩)
  refine ⟨z6, _, ?_, (w.app (g := g)).app (g := g2)⟩
  unfold st9
  rw [e2, hz]
end
end Pg
end

section
set_option linter.all false
set_option maxRecDepth 100000
set_option maxHeartbeats 1000000
namespace Pg
open PySem PySem.Spec L2 Mn
open TL (numL)
def l10 : CE := .lc (.v 10) (.one 10) 0 [.lst [.neg (.k (.int 1)), .k (.int 1000000)]] [.tnot (.tv (.call 54 [.v 7, .v 10] [] false))] [10]
def b10 : List CS := [.ite (.tcmp .NotEq l10 (.lst [])) [.rt (.k (.bl false))] []]
def kinds : List MV := [.str [112, 97, 114, 116], .str [115, 110, 97, 112], .str [112, 97, 103, 101, 115]]
def st10 : CS := .for_ (.one 7) 0 [.lst [.k (.str [112, 97, 114, 116]), .k (.str [115, 110, 97, 112]), .k (.str [112, 97, 103, 101, 115])]] b10
section
variable {s q b2 b3 b4 b5 : Nat} {H : MH} {L : List Nat} {x0 : MV} {x6 x7 x8 x9 x10 x11 x12 x13 x14 x15 x16 x17 x18 x19 x20 : Option MV}
theorem e_10b (n : Nat) (kd : List Nat) : ∃ g, evB gs (cc (n + 4)) b10 [some x0, some (.ref s), some (.ref b2), some (.ref b3), some (.ref b4), some (.ref b5), x6, some (.str kd), x8, x9, x10, x11, x12, x13, x14, x15, x16, x17, x18, x19, x20] H = .nx [some x0, some (.ref s), some (.ref b2), some (.ref b3), some (.ref b4), some (.ref b5), x6, some (.str kd), x8, x9, x10, x11, x12, x13, x14, x15, x16, x17, x18, x19, x20] (H ++ g) := by
  have l2 : (2 : Nat) ≤ lim := by unfold lim; omega
  have l0 : (0 : Nat) ≤ lim := by unfold lim; omega
  have e0 : evE gs (cc (n + 4)) (.lst [.neg (.k (.int 1)), .k (.int 1000000)]) [some x0, some (.ref s), some (.ref b2), some (.ref b3), some (.ref b4), some (.ref b5), x6, some (.str kd), x8, x9, x10, x11, x12, x13, x14, x15, x16, x17, x18, x19, x20] H = .ok (.ref H.length) (H ++ [.lst [.int (-1), .int 1000000]]) := by simp only [evB, evS, evE, evT, evEs, evBo, evBoT, evIfC, evP, evI, bind_ok, bind_ex, bind_err, then_ok, then_ex, then_err, opt_some, opt_none, gd_f, gd_ok, t_non, t_bl, t_int, t_tup, b_ii, b_sub, c_eq_i, c_ne_i, c_eq_s, c_ne_s, c_eq_b, c_ne_b, c_lt_i, c_gt_i, c_le_i, c_ge_i, m_lt_i, m_le_i, m_le_s, c_is_n, c_isn_n, c_is_b, c_isn_b, is_n, is_i, is_s, is_b, is_t, is_r, c_in_c, c_nin_c, l_t, i_i, o_c, ix_t, ty_n, ty_b, ty_i, ty_s, ty_t, isinM, asgC, setAll, List.map_cons, List.map_nil, List.cons_append, List.nil_append, List.length_cons, List.length_nil, List.replicate_succ, List.replicate_zero, List.getElem?_cons_zero, List.getElem?_cons_succ, List.getElem?_nil, List.set_cons_zero, List.set_cons_succ, if_true, if_false, Bool.not_true, Bool.not_false, Bool.false_eq_true, Option.map_some, Option.map_none, List.any_cons, List.any_nil, Bool.or_false, Bool.false_or, Bool.or_true, Bool.true_or, Bool.and_true, Bool.true_and, Bool.false_and, Bool.and_false, beq_self_eq_true, String.reduceBEq, decide_true, decide_false, Nat.reduceAdd, Nat.reduceSub, Nat.zero_add, Int.natAbs_natCast, and_self, true_and, and_true, List.isEmpty_cons, List.isEmpty_nil, Option.isSome_some, Option.isSome_none, List.append_nil, l2, lay]
  obtain ⟨g, e⟩ := lc_fm (C := cc (n + 4)) (elt := .v 10) (tg := .one 10) (ifs := [.tnot (.tv (.call 54 [.v 7, .v 10] [] false))]) (own := [10]) (xs := [.int (-1), .int 1000000]) (fun _ => none) (evI_l e0 get_new) (lf_l get_new) (by simp) (fun H k x => at_lst get_new H k x) (by
    intro x hx
    have key : ∀ i : Int, ¬ (0 ≤ i ∧ i ≤ 999999) → ∃ sm2, asgC (.one 10) (.int i) (wipeM [some x0, some (.ref s), some (.ref b2), some (.ref b3), some (.ref b4), some (.ref b5), x6, some (.str kd), x8, x9, x10, x11, x12, x13, x14, x15, x16, x17, x18, x19, x20] [10]) = some sm2 ∧ ∀ H2, Ext (H ++ [MO.lst [.int (-1), .int 1000000]]) H2 → ∃ bb g2, evIfC gs (cc (n + 4)) [.tnot (.tv (.call 54 [.v 7, .v 10] [] false))] sm2 H2 = .ok bb (H2 ++ g2) ∧ (bb = true → ∃ y g3, evE gs (cc (n + 4)) (.v 10) sm2 (H2 ++ g2) = .ok y (H2 ++ g2 ++ g3) ∧ (none : Option MV) = some y) ∧ (bb = false → (none : Option MV) = none) := by
      intro i hi
      refine ⟨[some x0, some (.ref s), some (.ref b2), some (.ref b3), some (.ref b4), some (.ref b5), x6, some (.str kd), x8, x9, some (.int i), x11, x12, x13, x14, x15, x16, x17, x18, x19, x20], rfl, fun H2 x2 => ?_⟩
      have f1 := r54 n kd i H2 hi
      refine ⟨false, [], ?_, fun h => (by cases h), fun _ => rfl⟩
      simp only [evB, evS, evE, evT, evEs, evBo, evBoT, evIfC, evP, evI, bind_ok, bind_ex, bind_err, then_ok, then_ex, then_err, opt_some, opt_none, gd_f, gd_ok, t_non, t_bl, t_int, t_tup, b_ii, b_sub, c_eq_i, c_ne_i, c_eq_s, c_ne_s, c_eq_b, c_ne_b, c_lt_i, c_gt_i, c_le_i, c_ge_i, m_lt_i, m_le_i, m_le_s, c_is_n, c_isn_n, c_is_b, c_isn_b, is_n, is_i, is_s, is_b, is_t, is_r, c_in_c, c_nin_c, l_t, i_i, o_c, ix_t, ty_n, ty_b, ty_i, ty_s, ty_t, isinM, asgC, setAll, List.map_cons, List.map_nil, List.cons_append, List.nil_append, List.length_cons, List.length_nil, List.replicate_succ, List.replicate_zero, List.getElem?_cons_zero, List.getElem?_cons_succ, List.getElem?_nil, List.set_cons_zero, List.set_cons_succ, if_true, if_false, Bool.not_true, Bool.not_false, Bool.false_eq_true, Option.map_some, Option.map_none, List.any_cons, List.any_nil, Bool.or_false, Bool.false_or, Bool.or_true, Bool.true_or, Bool.and_true, Bool.true_and, Bool.false_and, Bool.and_false, beq_self_eq_true, String.reduceBEq, decide_true, decide_false, Nat.reduceAdd, Nat.reduceSub, Nat.zero_add, Int.natAbs_natCast, and_self, true_and, and_true, List.isEmpty_cons, List.isEmpty_nil, Option.isSome_some, Option.isSome_none, List.append_nil, f1]
    simp only [List.mem_cons, List.not_mem_nil, or_false] at hx
    rcases hx with rfl | rfl
    · exact key (-1) (by omega)
    · exact key 1000000 (by omega))
  have en : ([MV.int (-1), .int 1000000]).filterMap (fun _ => (none : Option MV)) = [] := rfl
  rw [en] at e
  have hD1 := get_mid (h := H ++ [MO.lst [MV.int (-1), .int 1000000]]) (o := .lst []) (g := g)
  have ne := ne_strs (h := H ++ [MO.lst [MV.int (-1), .int 1000000]] ++ MO.lst [] :: g ++ [MO.lst []]) (a := (H ++ [MO.lst [MV.int (-1), .int 1000000]]).length) (b := (H ++ [MO.lst [MV.int (-1), .int 1000000]] ++ MO.lst [] :: g).length) (ts := []) (Ext.app.get hD1) get_new (fun t ht => by cases ht)
  refine ⟨[MO.lst [MV.int (-1), .int 1000000]] ++ MO.lst [] :: g ++ [MO.lst []], ?_⟩
  rw [← List.append_assoc, ← List.append_assoc]
  generalize (H ++ [MO.lst [MV.int (-1), .int 1000000]]).length = D at *
  generalize H ++ [MO.lst [MV.int (-1), .int 1000000]] ++ MO.lst [] :: g = H2 at *
  unfold b10 l10
  generalize (CE.lc (.v 10) (.one 10) 0 [.lst [.neg (.k (.int 1)), .k (.int 1000000)]] [.tnot (.tv (.call 54 [.v 7, .v 10] [] false))] [10]) = N at e ⊢
  simp only [evB, evS, evE, evT, evEs, evBo, evBoT, evIfC, evP, evI, bind_ok, bind_ex, bind_err, then_ok, then_ex, then_err, opt_some, opt_none, gd_f, gd_ok, t_non, t_bl, t_int, t_tup, b_ii, b_sub, c_eq_i, c_ne_i, c_eq_s, c_ne_s, c_eq_b, c_ne_b, c_lt_i, c_gt_i, c_le_i, c_ge_i, m_lt_i, m_le_i, m_le_s, c_is_n, c_isn_n, c_is_b, c_isn_b, is_n, is_i, is_s, is_b, is_t, is_r, c_in_c, c_nin_c, l_t, i_i, o_c, ix_t, ty_n, ty_b, ty_i, ty_s, ty_t, isinM, asgC, setAll, List.map_cons, List.map_nil, List.cons_append, List.nil_append, List.length_cons, List.length_nil, List.replicate_succ, List.replicate_zero, List.getElem?_cons_zero, List.getElem?_cons_succ, List.getElem?_nil, List.set_cons_zero, List.set_cons_succ, if_true, if_false, Bool.not_true, Bool.not_false, Bool.false_eq_true, Option.map_some, Option.map_none, List.any_cons, List.any_nil, Bool.or_false, Bool.false_or, Bool.or_true, Bool.true_or, Bool.and_true, Bool.true_and, Bool.false_and, Bool.and_false, beq_self_eq_true, String.reduceBEq, decide_true, decide_false, Nat.reduceAdd, Nat.reduceSub, Nat.zero_add, Int.natAbs_natCast, and_self, true_and, and_true, List.isEmpty_cons, List.isEmpty_nil, Option.isSome_some, Option.isSome_none, List.append_nil, e, l0, lay, ne]
theorem e_10 (n : Nat) (w : Wd H s q b2 b3 b4 b5 L) : ∃ z7 H', evS gs (cc (n + 4)) st10 [some x0, some (.ref s), some (.ref b2), some (.ref b3), some (.ref b4), some (.ref b5), x6, x7, x8, x9, x10, x11, x12, x13, x14, x15, x16, x17, x18, x19, x20] H = .nx [some x0, some (.ref s), some (.ref b2), some (.ref b3), some (.ref b4), some (.ref b5), x6, z7, x8, x9, x10, x11, x12, x13, x14, x15, x16, x17, x18, x19, x20] H' ∧ Wd H' s q b2 b3 b4 b5 L := by
  have l3 : (3 : Nat) ≤ lim := by unfold lim; omega
  have e : evE gs (cc (n + 4)) (.lst [.k (.str [112, 97, 114, 116]), .k (.str [115, 110, 97, 112]), .k (.str [112, 97, 103, 101, 115])]) [some x0, some (.ref s), some (.ref b2), some (.ref b3), some (.ref b4), some (.ref b5), x6, x7, x8, x9, x10, x11, x12, x13, x14, x15, x16, x17, x18, x19, x20] H = .ok (.ref H.length) (H ++ [.lst kinds]) := by simp only [evB, evS, evE, evT, evEs, evBo, evBoT, evIfC, evP, evI, bind_ok, bind_ex, bind_err, then_ok, then_ex, then_err, opt_some, opt_none, gd_f, gd_ok, t_non, t_bl, t_int, t_tup, b_ii, b_sub, c_eq_i, c_ne_i, c_eq_s, c_ne_s, c_eq_b, c_ne_b, c_lt_i, c_gt_i, c_le_i, c_ge_i, m_lt_i, m_le_i, m_le_s, c_is_n, c_isn_n, c_is_b, c_isn_b, is_n, is_i, is_s, is_b, is_t, is_r, c_in_c, c_nin_c, l_t, i_i, o_c, ix_t, ty_n, ty_b, ty_i, ty_s, ty_t, isinM, asgC, setAll, List.map_cons, List.map_nil, List.cons_append, List.nil_append, List.length_cons, List.length_nil, List.replicate_succ, List.replicate_zero, List.getElem?_cons_zero, List.getElem?_cons_succ, List.getElem?_nil, List.set_cons_zero, List.set_cons_succ, if_true, if_false, Bool.not_true, Bool.not_false, Bool.false_eq_true, Option.map_some, Option.map_none, List.any_cons, List.any_nil, Bool.or_false, Bool.false_or, Bool.or_true, Bool.true_or, Bool.and_true, Bool.true_and, Bool.false_and, Bool.and_false, beq_self_eq_true, String.reduceBEq, decide_true, decide_false, Nat.reduceAdd, Nat.reduceSub, Nat.zero_add, Int.natAbs_natCast, and_self, true_and, and_true, List.isEmpty_cons, List.isEmpty_nil, Option.isSome_some, Option.isSome_none, List.append_nil, l3, lay, kinds]
  obtain ⟨sm', g2, e2, z7, hz⟩ := for_l (j := 7) (b := b10) (fun sm => ∃ z7, sm = [some x0, some (.ref s), some (.ref b2), some (.ref b3), some (.ref b4), some (.ref b5), x6, z7, x8, x9, x10, x11, x12, x13, x14, x15, x16, x17, x18, x19, x20]) e get_new ⟨x7, rfl⟩ (by
    rintro x hx sm H2 ⟨z6, rfl⟩ hH
    have : ∃ kd, x = .str kd := by
      simp only [kinds, List.mem_cons, List.not_mem_nil, or_false] at hx
      rcases hx with rfl | rfl | rfl <;> exact ⟨_, rfl⟩
    obtain ⟨kd, rfl⟩ := this
    obtain ⟨g3, e3⟩ := e_10b (H := H2) (s := s) (b2 := b2) (b3 := b3) (b4 := b4) (b5 := b5) (x0 := x0) (x6 := x6) (x8 := x8) (x9 := x9) (x10 := x10) (x11 := x11) (x12 := x12) (x13 := x13) (x14 := x14) (x15 := x15) (x16 := x16) (x17 := x17) (x18 := x18) (x19 := x19) (x20 := x20) n kd
    exact ⟨_, g3, .inl e3, some (.str kd), rfl⟩)
  refine ⟨z7, _, ?_, (w.app (g := [.lst kinds])).app (g := g2)⟩
  unfold st10
  rw [e2, hz]
end
/-! ### names that are nearly such -/
def words : List (List Nat) := [[108, 111, 103, 46, 48, 48, 48, 48, 49], [108, 111, 103, 46, 48, 48, 48, 48, 48, 48, 49], [108, 111, 103, 46, 48, 48, 48, 48, 48, 97], [108, 111, 103, 48, 48, 48, 48, 48, 49], [76, 111, 103, 46, 48, 48, 48, 48, 48, 49], [115, 110, 97, 112, 46, 110, 101, 119], [115, 110, 97, 112, 46, 49], [115, 110, 97, 112, 46, 45, 48, 48, 48, 48, 49], [112, 97, 103, 101, 115, 46], [114, 111, 111, 116, 115], [], [108, 111, 103, 46, 48, 48, 48, 48, 48, 49, 32]]
theorem words_no : ∀ w ∈ words, isP [108, 111, 103, 46] w = false ∧ isP [115, 110, 97, 112, 46] w = false ∧ isP [112, 97, 103, 101, 115, 46] w = false ∧ w.length < 20 := by decide
def b11 : List CS := [.ite (.tbo .Or [.tv (.call 40 [.v 8] [] false), .tv (.call 43 [.v 8] [] false), .tv (.call 11 [.v 8] [] false), .tnot (.tv (.call 55 [.k (.str [112, 97, 114, 116]), .v 8] [] false)), .tnot (.tv (.call 55 [.k (.str [115, 110, 97, 112]), .v 8] [] false))]) [.rt (.k (.bl false))] []]
def st11 : CS := .for_ (.one 8) 0 [.lst (words.map fun w => .k (.str w))] b11
section
variable {s q b2 b3 b4 b5 : Nat} {H : MH} {L : List Nat} {x0 : MV} {x6 x7 x8 x9 x10 x11 x12 x13 x14 x15 x16 x17 x18 x19 x20 : Option MV}
theorem e_11b (n : Nat) {wd : List Nat} (hw : wd ∈ words) : ∃ g, evB gs (cc (n + 4)) b11 [some x0, some (.ref s), some (.ref b2), some (.ref b3), some (.ref b4), some (.ref b5), x6, x7, some (.str wd), x9, x10, x11, x12, x13, x14, x15, x16, x17, x18, x19, x20] H = .nx [some x0, some (.ref s), some (.ref b2), some (.ref b3), some (.ref b4), some (.ref b5), x6, x7, some (.str wd), x9, x10, x11, x12, x13, x14, x15, x16, x17, x18, x19, x20] (H ++ g) := by
  obtain ⟨p1, p2, p3, p4⟩ := words_no wd hw
  have hl : wd.length < lim := by unfold lim; omega
  obtain ⟨g1, f1⟩ := r40 (n + 3) wd H hl
  obtain ⟨g2, f2⟩ := r43 (n + 3) wd (H ++ g1) hl
  obtain ⟨g3, f3⟩ := r11 (n + 3) wd (H ++ g1 ++ g2) hl
  obtain ⟨g4, f4⟩ := r55 (n + 1) [112, 97, 114, 116] wd (H ++ g1 ++ g2 ++ g3) hl p1 p2
  obtain ⟨g5, f5⟩ := r55 (n + 1) [115, 110, 97, 112] wd (H ++ g1 ++ g2 ++ g3 ++ g4) hl p1 p2
  rw [p1] at f1
  rw [p2] at f2
  rw [p3] at f3
  refine ⟨g1 ++ g2 ++ g3 ++ g4 ++ g5, ?_⟩
  unfold b11
  simp only [evB, evS, evE, evT, evEs, evBo, evBoT, evIfC, evP, evI, bind_ok, bind_ex, bind_err, then_ok, then_ex, then_err, opt_some, opt_none, gd_f, gd_ok, t_non, t_bl, t_int, t_tup, b_ii, b_sub, c_eq_i, c_ne_i, c_eq_s, c_ne_s, c_eq_b, c_ne_b, c_lt_i, c_gt_i, c_le_i, c_ge_i, m_lt_i, m_le_i, m_le_s, c_is_n, c_isn_n, c_is_b, c_isn_b, is_n, is_i, is_s, is_b, is_t, is_r, c_in_c, c_nin_c, l_t, i_i, o_c, ix_t, ty_n, ty_b, ty_i, ty_s, ty_t, isinM, asgC, setAll, List.map_cons, List.map_nil, List.cons_append, List.nil_append, List.length_cons, List.length_nil, List.replicate_succ, List.replicate_zero, List.getElem?_cons_zero, List.getElem?_cons_succ, List.getElem?_nil, List.set_cons_zero, List.set_cons_succ, if_true, if_false, Bool.not_true, Bool.not_false, Bool.false_eq_true, Option.map_some, Option.map_none, List.any_cons, List.any_nil, Bool.or_false, Bool.false_or, Bool.or_true, Bool.true_or, Bool.and_true, Bool.true_and, Bool.false_and, Bool.and_false, beq_self_eq_true, String.reduceBEq, decide_true, decide_false, Nat.reduceAdd, Nat.reduceSub, Nat.zero_add, Int.natAbs_natCast, and_self, true_and, and_true, List.isEmpty_cons, List.isEmpty_nil, Option.isSome_some, Option.isSome_none, List.append_nil, f1, f2, f3, f4, f5]
  simp only [List.append_assoc]
theorem e_11 (n : Nat) (w : Wd H s q b2 b3 b4 b5 L) : ∃ z8 H', evS gs (cc (n + 4)) st11 [some x0, some (.ref s), some (.ref b2), some (.ref b3), some (.ref b4), some (.ref b5), x6, x7, x8, x9, x10, x11, x12, x13, x14, x15, x16, x17, x18, x19, x20] H = .nx [some x0, some (.ref s), some (.ref b2), some (.ref b3), some (.ref b4), some (.ref b5), x6, x7, z8, x9, x10, x11, x12, x13, x14, x15, x16, x17, x18, x19, x20] H' ∧ Wd H' s q b2 b3 b4 b5 L := by
  have l12 : (12 : Nat) ≤ lim := by unfold lim; omega
  have e : evE gs (cc (n + 4)) (.lst (words.map fun w => .k (.str w))) [some x0, some (.ref s), some (.ref b2), some (.ref b3), some (.ref b4), some (.ref b5), x6, x7, x8, x9, x10, x11, x12, x13, x14, x15, x16, x17, x18, x19, x20] H = .ok (.ref H.length) (H ++ [.lst (words.map .str)]) := by
    unfold words
    simp only [evB, evS, evE, evT, evEs, evBo, evBoT, evIfC, evP, evI, bind_ok, bind_ex, bind_err, then_ok, then_ex, then_err, opt_some, opt_none, gd_f, gd_ok, t_non, t_bl, t_int, t_tup, b_ii, b_sub, c_eq_i, c_ne_i, c_eq_s, c_ne_s, c_eq_b, c_ne_b, c_lt_i, c_gt_i, c_le_i, c_ge_i, m_lt_i, m_le_i, m_le_s, c_is_n, c_isn_n, c_is_b, c_isn_b, is_n, is_i, is_s, is_b, is_t, is_r, c_in_c, c_nin_c, l_t, i_i, o_c, ix_t, ty_n, ty_b, ty_i, ty_s, ty_t, isinM, asgC, setAll, List.map_cons, List.map_nil, List.cons_append, List.nil_append, List.length_cons, List.length_nil, List.replicate_succ, List.replicate_zero, List.getElem?_cons_zero, List.getElem?_cons_succ, List.getElem?_nil, List.set_cons_zero, List.set_cons_succ, if_true, if_false, Bool.not_true, Bool.not_false, Bool.false_eq_true, Option.map_some, Option.map_none, List.any_cons, List.any_nil, Bool.or_false, Bool.false_or, Bool.or_true, Bool.true_or, Bool.and_true, Bool.true_and, Bool.false_and, Bool.and_false, beq_self_eq_true, String.reduceBEq, decide_true, decide_false, Nat.reduceAdd, Nat.reduceSub, Nat.zero_add, Int.natAbs_natCast, and_self, true_and, and_true, List.isEmpty_cons, List.isEmpty_nil, Option.isSome_some, Option.isSome_none, List.append_nil, l12, lay]
  obtain ⟨sm', g2, e2, z8, hz⟩ := for_l (j := 8) (b := b11) (fun sm => ∃ z8, sm = [some x0, some (.ref s), some (.ref b2), some (.ref b3), some (.ref b4), some (.ref b5), x6, x7, z8, x9, x10, x11, x12, x13, x14, x15, x16, x17, x18, x19, x20]) e get_new ⟨x8, rfl⟩ (by
    rintro x hx sm H2 ⟨z6, rfl⟩ hH
    obtain ⟨wd, hw, rfl⟩ := List.mem_map.mp hx
    obtain ⟨g3, e3⟩ := e_11b (H := H2) (s := s) (b2 := b2) (b3 := b3) (b4 := b4) (b5 := b5) (x0 := x0) (x6 := x6) (x7 := x7) (x9 := x9) (x10 := x10) (x11 := x11) (x12 := x12) (x13 := x13) (x14 := x14) (x15 := x15) (x16 := x16) (x17 := x17) (x18 := x18) (x19 := x19) (x20 := x20) n hw
    exact ⟨_, g3, .inl e3, some (.str wd), rfl⟩)
  refine ⟨z8, _, ?_, (w.app (g := [.lst (words.map .str)])).app (g := g2)⟩
  unfold st11
  rw [e2, hz]
end
end Pg
end

section
set_option linter.all false
set_option maxRecDepth 100000
set_option maxHeartbeats 1000000
namespace Pg
open PySem PySem.Spec L2 Mn
open TL (numL)
/-! ### texts in order, plainly -/
abbrev UpS (l : List (List Nat)) : Prop := l.Pairwise (· < ·)
theorem insS_mem {x y : List Nat} : ∀ {l : List (List Nat)}, x ∈ insS y l ↔ x = y ∨ x ∈ l
  | [] => by simp [insS]
  | z :: r => by
    unfold insS
    split
    · simp
    · rw [List.mem_cons, insS_mem, List.mem_cons]
      constructor
      · rintro (h | h | h)
        · exact .inr (.inl h)
        · exact .inl h
        · exact .inr (.inr h)
      · rintro (h | h | h)
        · exact .inr (.inl h)
        · exact .inl h
        · exact .inr (.inr h)
theorem insS_up {y : List Nat} : ∀ {l : List (List Nat)}, UpS l → y ∉ l → UpS (insS y l)
  | [], _, _ => by simp [insS, UpS]
  | z :: r, h, hn => by
    have h' := List.pairwise_cons.mp h
    unfold insS
    split
    · rename_i hle
      have hlt : y < z := by
        rcases List.le_iff_lt_or_eq.mp hle with h | h
        · exact h
        · exact absurd (by rw [h]; exact List.mem_cons_self) hn
      refine List.pairwise_cons.mpr ⟨?_, h⟩
      intro a ha
      rcases List.mem_cons.mp ha with rfl | ha
      · exact hlt
      · exact List.lt_trans hlt (h'.1 a ha)
    · rename_i hle
      refine List.pairwise_cons.mpr ⟨?_, insS_up h'.2 fun hm => hn (List.mem_cons_of_mem _ hm)⟩
      intro a ha
      rcases insS_mem.mp ha with rfl | ha
      · exact List.not_le.mp hle
      · exact h'.1 a ha
theorem sortS_lt : ∀ {l : List (List Nat)}, l.Nodup → UpS (sortS l)
  | [], _ => List.Pairwise.nil
  | y :: r, h => by
    rw [List.nodup_cons] at h
    exact insS_up (sortS_lt h.2) fun hm => h.1 (mem_sortS.mp hm)
theorem up_ext : ∀ {a b : List (List Nat)}, UpS a → UpS b → (∀ x, x ∈ a ↔ x ∈ b) → a = b
  | [], [], _, _, _ => rfl
  | [], y :: b, _, _, h => absurd ((h y).mpr List.mem_cons_self) (by simp)
  | x :: a, [], _, _, h => absurd ((h x).mp List.mem_cons_self) (by simp)
  | x :: a, y :: b, ha, hb, h => by
    have ha' := List.pairwise_cons.mp ha
    have hb' := List.pairwise_cons.mp hb
    have exy : x = y := by
      rcases List.mem_cons.mp ((h x).mp List.mem_cons_self) with e | hx
      · exact e
      · rcases List.mem_cons.mp ((h y).mpr List.mem_cons_self) with e | hy
        · exact e.symm
        · exact absurd (List.lt_trans (ha'.1 y hy) (hb'.1 x hx)) (List.lt_irrefl x)
    subst exy
    congr 1
    refine up_ext ha'.2 hb'.2 fun z => ⟨fun hz => ?_, fun hz => ?_⟩
    · rcases List.mem_cons.mp ((h z).mp (List.mem_cons_of_mem _ hz)) with e | hz2
      · subst e
        exact absurd (ha'.1 z hz) (List.lt_irrefl z)
      · exact hz2
    · rcases List.mem_cons.mp ((h z).mpr (List.mem_cons_of_mem _ hz)) with e | hz2
      · subst e
        exact absurd (hb'.1 z hz) (List.lt_irrefl z)
      · exact hz2
theorem up_nodup {l : List (List Nat)} (h : UpS l) : l.Nodup := h.imp fun {a b} hab e => by
  subst e
  exact List.lt_irrefl a hab
/-! ### the disk's names -/
def two : List (List Nat) := [[114, 111, 111, 116, 115], [111, 116, 104, 101, 114]]
def allN (L : List Nat) : List (List Nat) := tri L ++ two
theorem two_no : ∀ t ∈ two, isP LOG t = false ∧ isP SNP t = false ∧ isP PGS t = false ∧ t.length < 10 ∧ t ≠ [] := by decide
theorem allN_is {L : List Nat} (u : Up L) {t : List Nat} (ht : t ∈ allN L) : isP LOG t = decide (t ∈ L.map (nm LOG)) ∧ isP SNP t = decide (t ∈ L.map (nm SNP)) ∧ isP PGS t = decide (t ∈ L.map (nm PGS)) := by
  rcases List.mem_append.mp ht with ht | ht
  · exact tri_is u ht
  · obtain ⟨h1, h2, h3, _⟩ := two_no t ht
    have no : ∀ {P : List Nat}, isP P t = false → t ∉ L.map (nm P) := fun {P} h hm => by
      obtain ⟨v, hv, rfl⟩ := List.mem_map.mp hm
      rw [isP_nm (u.2.1 v hv)] at h
      cases h
    refine ⟨?_, ?_, ?_⟩
    · rw [h1]; simp only [no h1, decide_false]
    · rw [h2]; simp only [no h2, decide_false]
    · rw [h3]; simp only [no h3, decide_false]
theorem allN_len {L : List Nat} (u : Up L) {t : List Nat} (ht : t ∈ allN L) : t.length ≤ 12 ∧ t ≠ [] := by
  rcases List.mem_append.mp ht with ht | ht
  · exact ⟨(tri_len u ht).1, (tri_len u ht).2.2⟩
  · obtain ⟨_, _, _, h4, h5⟩ := two_no t ht
    exact ⟨by omega, h5⟩
theorem allN_count {L : List Nat} (u : Up L) : (allN L).length ≤ 35 := by
  have := u.1
  simp [allN, tri, two]
  omega
theorem allN_nodup {L : List Nat} (u : Up L) : (allN L).Nodup := by
  have a1 := up_nodup (nm_up (P := LOG) u)
  have a2 := up_nodup (nm_up (P := SNP) u)
  have a3 := up_nodup (nm_up (P := PGS) u)
  unfold allN tri
  rw [List.nodup_append, List.nodup_append, List.nodup_append]
  refine ⟨⟨⟨a1, a2, ?_⟩, a3, ?_⟩, by decide, ?_⟩
  · intro x hx y hy e
    subst e
    obtain ⟨v, hv, rfl⟩ := List.mem_map.mp hy
    exact n_nm u (x_ls v) hx
  · intro x hx y hy e
    subst e
    obtain ⟨v, hv, rfl⟩ := List.mem_map.mp hy
    rcases List.mem_append.mp hx with hx | hx
    · exact n_nm u (x_lp v) hx
    · exact n_nm u (x_sp v) hx
  · intro x hx y hy e
    subst e
    obtain ⟨h1, h2, h3, _⟩ := two_no x hy
    obtain ⟨i1, i2, i3⟩ := tri_is u hx
    rw [h1] at i1
    rw [h2] at i2
    rw [h3] at i3
    rcases List.mem_append.mp hx with hx | hx
    · rcases List.mem_append.mp hx with hx | hx
      · simp [hx] at i1
      · simp [hx] at i2
    · simp [hx] at i3
theorem pick {L : List Nat} (u : Up L) {ts : List (List Nat)} (hp : ts.Perm (allN L)) (P : List Nat) (hP : ∀ t ∈ allN L, isP P t = decide (t ∈ L.map (nm P))) (hs : ∀ v ∈ L, nm P v ∈ allN L) : (sortS ts).filter (isP P) = L.map (nm P) := by
  refine up_ext ((sortS_lt (hp.nodup_iff.mpr (allN_nodup u))).filter _) (nm_up u) fun x => ?_
  rw [List.mem_filter, mem_sortS, hp.mem_iff]
  constructor
  · rintro ⟨h1, h2⟩
    rw [hP x h1] at h2
    simpa using h2
  · intro h
    obtain ⟨v, hv, rfl⟩ := List.mem_map.mp h
    exact ⟨hs v hv, isP_nm (u.2.1 v hv)⟩
end Pg
end

section
set_option linter.all false
set_option maxRecDepth 100000
set_option maxHeartbeats 1000000
namespace Pg
open PySem PySem.Spec L2 Mn
open TL (numL)
/-! ### the disk with all of them -/
def st12 : CS := .set 9 (.mk 4 14 [] [] false)
def mkB : List CS := [.ex (.met (.v 9) [⟨4, 21, [], false, true⟩] none none none [.v 6])]
def turnS : CE := .call 50 [.v 1, .bin .Add triE (.lst [.k (.str [114, 111, 111, 116, 115]), .k (.str [111, 116, 104, 101, 114])])] [] false
def st13 : CS := .for_ (.one 6) 0 [turnS] mkB
def st14 : CS := .ite (.tbo .Or [.tnot (.tv (.call 49 [.call 39 [.v 9] [] false, .v 3] [] false)), .tnot (.tv (.call 49 [.call 44 [.v 9] [] false, .v 4] [] false)), .tnot (.tv (.call 49 [.call 46 [.v 9] [] false, .v 2] [] false)), .tnot (.tv (.call 49 [.call 47 [.v 9] [] false, .v 2] [] false))]) [.rt (.k (.bl false))] []
theorem perm_strs {ys : List MV} {l : List (List Nat)} (p : ys.Perm (l.map .str)) : ∃ ts : List (List Nat), ys = ts.map .str ∧ ts.Perm l := by
  refine ⟨ys.map sv, ?_, ?_⟩
  · rw [List.map_map]
    conv => lhs; rw [← List.map_id ys]
    refine List.map_congr_left fun y hy => ?_
    obtain ⟨t, _, rfl⟩ := List.mem_map.mp (p.mem_iff.mp hy)
    rfl
  · have := p.map sv
    rw [List.map_map] at this
    have e : (sv ∘ MV.str) = id := rfl
    rwa [e, List.map_id] at this
theorem DiskOk.lt {h : MH} {d : Nat} {ns : List (List Nat)} (x : DiskOk h d ns) : d + 5 < h.length := by
  obtain ⟨_, _, _, _, _, _, _, _, _, _, h4, _⟩ := x
  exact (List.getElem?_eq_some_iff.mp h4).1
theorem DiskOk.ext {h h' : MH} {d : Nat} {ns : List (List Nat)} (e : Ext h h') (x : DiskOk h d ns) : DiskOk h' d ns := by
  obtain ⟨kv0, kv1, kv2, L, a2, y, k, h1, h2, h3, h4, h5, r⟩ := x
  exact ⟨kv0, kv1, kv2, L, a2, y, k, e.get h1, e.get h2, e.get h3, e.get h4, e.get h5, r⟩
theorem StOk.keepD {h h' : MH} {s q d : Nat} (x : StOk h s q) (k : KeepD d h h') (hs : s < d) (hq : q < d) : StOk h' s q := by
  obtain ⟨i, a, b, ns, h1, h2, h3⟩ := x
  exact ⟨i, a, b, ns, k.2 _ _ (.inl hs) h1, k.2 _ _ (.inl hq) h2, h3⟩
theorem same_Tk {k : Nat} (n : Nat) (hk : n ≤ k) {e e' : CE} {sm : MSt} {h h1 h2 : MH} {x y : MV} (he : evE gs (cc k) e sm h = .ok x h1) (hj : evE gs (cc k) e' sm h1 = .ok y h2) (hq : eqD n h2 x y) : evT gs (cc k) (.tnot (.tv (.call 49 [e, e'] [] false))) sm h = .ok false h2 := by
  obtain ⟨m, rfl⟩ := Nat.exists_eq_add_of_le hk
  exact same_T he hj hq
section
variable {s q b2 b3 b4 b5 : Nat} {H : MH} {L : List Nat} {x0 : MV} {x6 x7 x8 x9 x10 x11 x12 x13 x14 x15 x16 x17 x18 x19 x20 : Option MV}
theorem Wd.lts (w : Wd H s q b2 b3 b4 b5 L) : s < H.length ∧ q < H.length ∧ b2 < H.length ∧ b3 < H.length ∧ b4 < H.length ∧ b5 < H.length :=
  ⟨w.st.lt.1, w.st.lt.2, (List.getElem?_eq_some_iff.mp w.e2).1, (List.getElem?_eq_some_iff.mp w.e3).1, (List.getElem?_eq_some_iff.mp w.e4).1, (List.getElem?_eq_some_iff.mp w.e5).1⟩
theorem Wd.keepD {H0 H' : MH} (w0 : Wd H0 s q b2 b3 b4 b5 L) (w : Wd H s q b2 b3 b4 b5 L) (k : KeepD H0.length H H') : Wd H' s q b2 b3 b4 b5 L := by
  obtain ⟨l0, l1, l2, l3, l4, l5⟩ := w0.lts
  exact ⟨w.st.keepD k l0 l1, w.u, k.2 _ _ (.inl l2) w.e2, k.2 _ _ (.inl l3) w.e3, k.2 _ _ (.inl l4) w.e4, k.2 _ _ (.inl l5) w.e5, w.n2, w.n3, w.n4, w.n5⟩
theorem turnS_ev (n : Nat) (w : Wd H s q b2 b3 b4 b5 L) : ∃ (a : Nat) (H' : MH) (ts : List (List Nat)), evE gs (cc (n + 2)) turnS [some x0, some (.ref s), some (.ref b2), some (.ref b3), some (.ref b4), some (.ref b5), x6, x7, x8, x9, x10, x11, x12, x13, x14, x15, x16, x17, x18, x19, x20] H = .ok (.ref a) H' ∧ H.length < a ∧ H'[a]? = some (.lst (ts.map .str)) ∧ ts.Perm (allN L) ∧ Keep s H H' ∧ StOk H' s q := by
  obtain ⟨a, g, e, ea⟩ := tri_ev (x0 := x0) (x6 := x6) (x7 := x7) (x8 := x8) (x9 := x9) (x10 := x10) (x11 := x11) (x12 := x12) (x13 := x13) (x14 := x14) (x15 := x15) (x16 := x16) (x17 := x17) (x18 := x18) (x19 := x19) (x20 := x20) (cc (n + 2)) w
  have hc := allN_count w.u
  have l2 : (2 : Nat) ≤ lim := by unfold lim; omega
  have a1 := b_ll (h := H ++ g ++ [.lst (two.map .str)]) (a := a) (b := (H ++ g).length) (Ext.app.get ea) get_new (by
    rw [List.length_map, List.length_map]
    unfold allN at hc
    rw [List.length_append] at hc
    unfold lim
    omega)
  rw [← List.map_append] at a1
  generalize hH2 : H ++ g ++ [MO.lst (two.map .str)] ++ [MO.lst ((tri L ++ two).map .str)] = H2 at a1
  have x2 : Ext H H2 := by rw [← hH2, List.append_assoc, List.append_assoc]; exact Ext.app
  have g2 : H2[(H ++ g ++ [MO.lst (two.map .str)]).length]? = some (.lst ((tri L ++ two).map .str)) := by rw [← hH2]; exact get_new
  have st2 : StOk H2 s q := by
    obtain ⟨g', rfl⟩ := x2
    exact w.st.app
  generalize (H ++ g ++ [MO.lst (two.map .str)]).length = Z at a1 g2
  obtain ⟨H', ys, f1, f2, f3, f4, f5⟩ := turned n st2 g2 (by rw [List.length_map]; unfold allN at hc; omega)
  obtain ⟨ts, rfl, p⟩ := perm_strs f5
  have k2 : Keep s H H' := by
    obtain ⟨g', rfl⟩ := x2
    exact (Keep.refl.app).trans f2
  refine ⟨H2.length + 1, H', ts, ?_, ?_, f4, p, k2, f3⟩
  · unfold turnS
    generalize triE = N at e ⊢
    unfold two at a1
    simp only [List.map_cons, List.map_nil] at a1
    simp only [evB, evS, evE, evT, evEs, evBo, evBoT, evIfC, evP, evI, bind_ok, bind_ex, bind_err, then_ok, then_ex, then_err, opt_some, opt_none, gd_f, gd_ok, t_non, t_bl, t_int, t_tup, b_ii, b_sub, c_eq_i, c_ne_i, c_eq_s, c_ne_s, c_eq_b, c_ne_b, c_lt_i, c_gt_i, c_le_i, c_ge_i, m_lt_i, m_le_i, m_le_s, c_is_n, c_isn_n, c_is_b, c_isn_b, is_n, is_i, is_s, is_b, is_t, is_r, c_in_c, c_nin_c, l_t, i_i, o_c, ix_t, ty_n, ty_b, ty_i, ty_s, ty_t, isinM, asgC, setAll, List.map_cons, List.map_nil, List.cons_append, List.nil_append, List.length_cons, List.length_nil, List.replicate_succ, List.replicate_zero, List.getElem?_cons_zero, List.getElem?_cons_succ, List.getElem?_nil, List.set_cons_zero, List.set_cons_succ, if_true, if_false, Bool.not_true, Bool.not_false, Bool.false_eq_true, Option.map_some, Option.map_none, List.any_cons, List.any_nil, Bool.or_false, Bool.false_or, Bool.or_true, Bool.true_or, Bool.and_true, Bool.true_and, Bool.false_and, Bool.and_false, beq_self_eq_true, String.reduceBEq, decide_true, decide_false, Nat.reduceAdd, Nat.reduceSub, Nat.zero_add, Int.natAbs_natCast, and_self, true_and, and_true, List.isEmpty_cons, List.isEmpty_nil, Option.isSome_some, Option.isSome_none, List.append_nil, e, l2, lay, a1, f1]
  · have := x2.len
    omega
theorem e_1213 (n : Nat) (w : Wd H s q b2 b3 b4 b5 L) : ∃ (z6 : Option MV) (H' : MH) (ts : List (List Nat)), evB gs (cc (n + 3)) [st12, st13] [some x0, some (.ref s), some (.ref b2), some (.ref b3), some (.ref b4), some (.ref b5), x6, x7, x8, x9, x10, x11, x12, x13, x14, x15, x16, x17, x18, x19, x20] H = .nx [some x0, some (.ref s), some (.ref b2), some (.ref b3), some (.ref b4), some (.ref b5), z6, x7, x8, some (.ref H.length), x10, x11, x12, x13, x14, x15, x16, x17, x18, x19, x20] H' ∧ Wd H' s q b2 b3 b4 b5 L ∧ DiskOk H' H.length ts ∧ ts.Perm (allN L) := by
  have r := r14 (n + 2) H
  have d0 : DiskOk (H ++ [.ins 4 (dF H.length (H.length + 3) (.ref (H.length + 4)) 0), .dK [], .dK [], .dK [], .dK [], .lst []]) H.length [] := by
    refine ⟨[], [], [], [], H.length + 3, .ref (H.length + 4), 0, ?_, ?_, ?_, ?_, ?_, ?_, ?_, ?_, rfl, .inl rfl⟩
    all_goals first
      | exact Nat.le_refl _
      | (rw [List.getElem?_append_right (by omega)]; simp)
  have e12 : evS gs (cc (n + 3)) st12 [some x0, some (.ref s), some (.ref b2), some (.ref b3), some (.ref b4), some (.ref b5), x6, x7, x8, x9, x10, x11, x12, x13, x14, x15, x16, x17, x18, x19, x20] H = .nx [some x0, some (.ref s), some (.ref b2), some (.ref b3), some (.ref b4), some (.ref b5), x6, x7, x8, some (.ref H.length), x10, x11, x12, x13, x14, x15, x16, x17, x18, x19, x20] (H ++ [.ins 4 (dF H.length (H.length + 3) (.ref (H.length + 4)) 0), .dK [], .dK [], .dK [], .dK [], .lst []]) := by
    unfold st12
    simp only [evB, evS, evE, evT, evEs, evBo, evBoT, evIfC, evP, evI, bind_ok, bind_ex, bind_err, then_ok, then_ex, then_err, opt_some, opt_none, gd_f, gd_ok, t_non, t_bl, t_int, t_tup, b_ii, b_sub, c_eq_i, c_ne_i, c_eq_s, c_ne_s, c_eq_b, c_ne_b, c_lt_i, c_gt_i, c_le_i, c_ge_i, m_lt_i, m_le_i, m_le_s, c_is_n, c_isn_n, c_is_b, c_isn_b, is_n, is_i, is_s, is_b, is_t, is_r, c_in_c, c_nin_c, l_t, i_i, o_c, ix_t, ty_n, ty_b, ty_i, ty_s, ty_t, isinM, asgC, setAll, List.map_cons, List.map_nil, List.cons_append, List.nil_append, List.length_cons, List.length_nil, List.replicate_succ, List.replicate_zero, List.getElem?_cons_zero, List.getElem?_cons_succ, List.getElem?_nil, List.set_cons_zero, List.set_cons_succ, if_true, if_false, Bool.not_true, Bool.not_false, Bool.false_eq_true, Option.map_some, Option.map_none, List.any_cons, List.any_nil, Bool.or_false, Bool.false_or, Bool.or_true, Bool.true_or, Bool.and_true, Bool.true_and, Bool.false_and, Bool.and_false, beq_self_eq_true, String.reduceBEq, decide_true, decide_false, Nat.reduceAdd, Nat.reduceSub, Nat.zero_add, Int.natAbs_natCast, and_self, true_and, and_true, List.isEmpty_cons, List.isEmpty_nil, Option.isSome_some, Option.isSome_none, List.append_nil, r]
  generalize hH1 : H ++ [MO.ins 4 (dF H.length (H.length + 3) (.ref (H.length + 4)) 0), .dK [], .dK [], .dK [], .dK [], .lst []] = H1 at d0 e12
  have x1 : Ext H H1 := hH1 ▸ Ext.app
  have w1 : Wd H1 s q b2 b3 b4 b5 L := w.ext x1
  obtain ⟨a, H2, ts, e2, la, ea, p, k2, st2⟩ := turnS_ev (x0 := x0) (x6 := x6) (x7 := x7) (x8 := x8) (x9 := some (.ref H.length)) (x10 := x10) (x11 := x11) (x12 := x12) (x13 := x13) (x14 := x14) (x15 := x15) (x16 := x16) (x17 := x17) (x18 := x18) (x19 := x19) (x20 := x20) (n + 1) w1
  have w2 : Wd H2 s q b2 b3 b4 b5 L := w1.keep k2 st2
  have hs := w.lts.1
  have d2 : DiskOk H2 H.length [] := by
    obtain ⟨kv0, kv1, kv2, L', a2, y, k, h1, h2, h3, h4, h5, r1, r2, r3, r4, r5⟩ := d0
    exact ⟨kv0, kv1, kv2, L', a2, y, k, k2.get (by omega) h1, k2.get (by omega) h2, k2.get (by omega) h3, k2.get (by omega) h4, k2.get (by omega) h5, r1, r2, r3, r4, r5⟩
  have ld := d0.lt
  have lts := p.length_eq
  have hc := allN_count w.u
  obtain ⟨sm', H3, e3, z6, i1, i2, i3⟩ := forC_run (tg := .one 6) (it := .lst a) (b := fun sm h => evB gs (cc (n + 3)) mkB sm h) ts.length
    (fun k sm h => ∃ z6, sm = [some x0, some (.ref s), some (.ref b2), some (.ref b3), some (.ref b4), some (.ref b5), z6, x7, x8, some (.ref H.length), x10, x11, x12, x13, x14, x15, x16, x17, x18, x19, x20] ∧ DiskOk h H.length (ts.take k) ∧ KeepD H.length H2 h) (m := ts.length + 1) (sm := [some x0, some (.ref s), some (.ref b2), some (.ref b3), some (.ref b4), some (.ref b5), x6, x7, x8, some (.ref H.length), x10, x11, x12, x13, x14, x15, x16, x17, x18, x19, x20]) (h := H2) (Nat.lt_succ_self _) ⟨x6, rfl, by simpa using d2, KeepD.refl⟩ (by
      rintro k sm h hk ⟨z6, rfl, j1, j2⟩
      have hx : ts[k]? = some ts[k] := List.getElem?_eq_getElem hk
      have hm : ts[k] ∈ allN L := p.mem_iff.mp (List.getElem_mem hk)
      have nd : ts.Nodup := p.nodup_iff.mpr (allN_nodup w.u)
      have hn : ts[k] ∉ ts.take k := by
        intro hin
        obtain ⟨j, hj, e⟩ := List.mem_take_iff_getElem.mp hin
        have : j = k := (List.getElem_inj nd).mp e
        omega
      obtain ⟨h', f1, f2, f3⟩ := r21 n j1 hn (allN_len w.u hm).2 (by rw [List.length_take]; omega)
      have ha := j2.2 _ _ (.inr (by omega)) ea
      obtain ⟨kv0, kv1, kv2, L', a2, y, k0, h1, _⟩ := j1
      refine ⟨.str ts[k], [some x0, some (.ref s), some (.ref b2), some (.ref b3), some (.ref b4), some (.ref b5), some (.str ts[k]), x7, x8, some (.ref H.length), x10, x11, x12, x13, x14, x15, x16, x17, x18, x19, x20], ?_, rfl, [some x0, some (.ref s), some (.ref b2), some (.ref b3), some (.ref b4), some (.ref b5), some (.str ts[k]), x7, x8, some (.ref H.length), x10, x11, x12, x13, x14, x15, x16, x17, x18, x19, x20], h', .inl ?_, some (.str ts[k]), rfl, ?_, j2.trans f3⟩
      · rw [la_l ha, List.getElem?_map, hx]
        rfl
      · unfold mkB
        simp only [evB, evS, evE, evT, evEs, evBo, evBoT, evIfC, evP, evI, bind_ok, bind_ex, bind_err, then_ok, then_ex, then_err, opt_some, opt_none, gd_f, gd_ok, t_non, t_bl, t_int, t_tup, b_ii, b_sub, c_eq_i, c_ne_i, c_eq_s, c_ne_s, c_eq_b, c_ne_b, c_lt_i, c_gt_i, c_le_i, c_ge_i, m_lt_i, m_le_i, m_le_s, c_is_n, c_isn_n, c_is_b, c_isn_b, is_n, is_i, is_s, is_b, is_t, is_r, c_in_c, c_nin_c, l_t, i_i, o_c, ix_t, ty_n, ty_b, ty_i, ty_s, ty_t, isinM, asgC, setAll, List.map_cons, List.map_nil, List.cons_append, List.nil_append, List.length_cons, List.length_nil, List.replicate_succ, List.replicate_zero, List.getElem?_cons_zero, List.getElem?_cons_succ, List.getElem?_nil, List.set_cons_zero, List.set_cons_succ, if_true, if_false, Bool.not_true, Bool.not_false, Bool.false_eq_true, Option.map_some, Option.map_none, List.any_cons, List.any_nil, Bool.or_false, Bool.false_or, Bool.or_true, Bool.true_or, Bool.and_true, Bool.true_and, Bool.false_and, Bool.and_false, beq_self_eq_true, String.reduceBEq, decide_true, decide_false, Nat.reduceAdd, Nat.reduceSub, Nat.zero_add, Int.natAbs_natCast, and_self, true_and, and_true, List.isEmpty_cons, List.isEmpty_nil, Option.isSome_some, Option.isSome_none, List.append_nil, h1, List.find?_cons, f1]
      · rw [List.take_add_one, hx]
        exact f2) (by
      rintro sm h ⟨z6, _, _, j2⟩
      rw [la_l (j2.2 _ _ (.inr (by omega)) ea), List.getElem?_eq_none (by simp)])
  rw [List.take_length] at i2
  refine ⟨z6, H3, ts, ?_, w.keepD w2 i3, i2, p⟩
  have e13 : evS gs (cc (n + 3)) st13 [some x0, some (.ref s), some (.ref b2), some (.ref b3), some (.ref b4), some (.ref b5), x6, x7, x8, some (.ref H.length), x10, x11, x12, x13, x14, x15, x16, x17, x18, x19, x20] H1 = .nx sm' H3 := by
    unfold st13
    rw [evS_for (evI_l e2 ea), lf_l ea, List.length_map]
    exact e3
  rw [i1] at e13
  simp only [evB, e12, e13]
theorem t14 (n i j b d : Nat) {sm : MSt} {h g : MH} {a : Nat} (hj : sm[j]? = some (some (.ref b))) (h9 : sm[9]? = some (some (.ref d))) (hc : cc (n + 3) i [.ref d] h = .ok (.ref a) (h ++ g)) (hq : eqD 2 (h ++ g) (.ref a) (.ref b)) : evT gs (cc (n + 3)) (.tnot (.tv (.call 49 [.call i [.v 9] [] false, .v j] [] false))) sm h = .ok false (h ++ g) := by
  have e0 : evE gs (cc (n + 3)) (.call i [.v 9] [] false) sm h = .ok (.ref a) (h ++ g) := by simp only [evB, evS, evE, evT, evEs, evBo, evBoT, evIfC, evP, evI, bind_ok, bind_ex, bind_err, then_ok, then_ex, then_err, opt_some, opt_none, gd_f, gd_ok, t_non, t_bl, t_int, t_tup, b_ii, b_sub, c_eq_i, c_ne_i, c_eq_s, c_ne_s, c_eq_b, c_ne_b, c_lt_i, c_gt_i, c_le_i, c_ge_i, m_lt_i, m_le_i, m_le_s, c_is_n, c_isn_n, c_is_b, c_isn_b, is_n, is_i, is_s, is_b, is_t, is_r, c_in_c, c_nin_c, l_t, i_i, o_c, ix_t, ty_n, ty_b, ty_i, ty_s, ty_t, isinM, asgC, setAll, List.map_cons, List.map_nil, List.cons_append, List.nil_append, List.length_cons, List.length_nil, List.replicate_succ, List.replicate_zero, List.getElem?_cons_zero, List.getElem?_cons_succ, List.getElem?_nil, List.set_cons_zero, List.set_cons_succ, if_true, if_false, Bool.not_true, Bool.not_false, Bool.false_eq_true, Option.map_some, Option.map_none, List.any_cons, List.any_nil, Bool.or_false, Bool.false_or, Bool.or_true, Bool.true_or, Bool.and_true, Bool.true_and, Bool.false_and, Bool.and_false, beq_self_eq_true, String.reduceBEq, decide_true, decide_false, Nat.reduceAdd, Nat.reduceSub, Nat.zero_add, Int.natAbs_natCast, and_self, true_and, and_true, List.isEmpty_cons, List.isEmpty_nil, Option.isSome_some, Option.isSome_none, List.append_nil, h9, hc]
  have ej : evE gs (cc (n + 3)) (.v j) sm (h ++ g) = .ok (.ref b) (h ++ g) := by simp only [evE, hj]
  exact same_Tk 2 (by omega) e0 ej hq
theorem vals_nm {P L : List Nat} {k : Nat} (hk : P.length = k) : (L.map (nm P)).map (fun s => MV.int (NumText.digitsVal (s.drop k) : Nat)) = iL L := by
  subst hk
  unfold iL
  rw [List.map_map]
  refine List.map_congr_left fun v _ => ?_
  show MV.int (NumText.digitsVal ((nm P v).drop P.length) : Nat) = _
  rw [drop_nm, six_val]
theorem e_14 (n d : Nat) {ts : List (List Nat)} (w : Wd H s q b2 b3 b4 b5 L) (hd : DiskOk H d ts) (p : ts.Perm (allN L)) : ∃ H', evS gs (cc (n + 3)) st14 [some x0, some (.ref s), some (.ref b2), some (.ref b3), some (.ref b4), some (.ref b5), x6, x7, x8, some (.ref d), x10, x11, x12, x13, x14, x15, x16, x17, x18, x19, x20] H = .nx [some x0, some (.ref s), some (.ref b2), some (.ref b3), some (.ref b4), some (.ref b5), x6, x7, x8, some (.ref d), x10, x11, x12, x13, x14, x15, x16, x17, x18, x19, x20] H' ∧ Wd H' s q b2 b3 b4 b5 L := by
  have hc := allN_count w.u
  have lts := p.length_eq
  have lu := w.u.1
  have hn : ts.length < 64 := by omega
  have hl : ∀ t ∈ ts, t.length < lim := fun t ht => by
    have := (allN_len w.u (p.mem_iff.mp ht)).1
    unfold lim
    omega
  have k1 := pick w.u p LOG (fun t ht => (allN_is w.u ht).1) (fun v hv => List.mem_append_left _ (List.mem_append_left _ (List.mem_append_left _ (List.mem_map_of_mem hv))))
  have k2 := pick w.u p SNP (fun t ht => (allN_is w.u ht).2.1) (fun v hv => List.mem_append_left _ (List.mem_append_left _ (List.mem_append_right _ (List.mem_map_of_mem hv))))
  have k3 := pick w.u p PGS (fun t ht => (allN_is w.u ht).2.2) (fun v hv => List.mem_append_left _ (List.mem_append_right _ (List.mem_map_of_mem hv)))
  obtain ⟨a1, g1, f1, _, m1⟩ := r39 (n + 1) hd hn hl
  rw [show (sortS ts).filter (isP [108, 111, 103, 46]) = _ from k1] at m1
  have w1 : Wd (H ++ g1) s q b2 b3 b4 b5 L := w.app
  have d1 := hd.ext (Ext.app (g := g1))
  obtain ⟨a2, g2, f2, _, m2⟩ := r44 (n + 1) d1 hn hl
  rw [show (sortS ts).filter (isP [115, 110, 97, 112, 46]) = _ from k2] at m2
  have w2 : Wd (H ++ g1 ++ g2) s q b2 b3 b4 b5 L := w1.app
  have d2 := d1.ext (Ext.app (g := g2))
  obtain ⟨a3, g3, f3, _, m3⟩ := r46 (n + 1) d2 hn hl
  rw [show (sortS ts).filter (isP [112, 97, 103, 101, 115, 46]) = _ from k3, vals_nm (P := PGS) (k := 6) rfl] at m3
  have w3 : Wd (H ++ g1 ++ g2 ++ g3) s q b2 b3 b4 b5 L := w2.app
  have d3 := d2.ext (Ext.app (g := g3))
  obtain ⟨a4, g4, f4, _, m4⟩ := r47 n d3 hn hl
  rw [show (sortS ts).filter (isP [115, 110, 97, 112, 46]) = _ from k2, vals_nm (P := SNP) (k := 5) rfl] at m4
  have w4 : Wd (H ++ g1 ++ g2 ++ g3 ++ g4) s q b2 b3 b4 b5 L := w3.app
  refine ⟨_, ?_, w4⟩
  unfold st14
  exact ite_f (or_f (t14 n 39 3 b3 d rfl rfl f1 (eq_strs m1 w1.e3 (by simp; omega))) (or_f (t14 n 44 4 b4 d rfl rfl f2 (eq_strs m2 w2.e4 (by simp; omega))) (or_f (t14 n 46 2 b2 d rfl rfl f3 (eq_ints m3 w3.e2 (by omega))) (or_1 (t14 n 47 2 b2 d rfl rfl f4 (eq_ints m4 w4.e2 (by omega)))) (by simp)) (by simp)) (by simp))
end
end Pg
end

section
set_option linter.all false
set_option maxRecDepth 100000
set_option maxHeartbeats 1000000
namespace Pg
open PySem PySem.Spec L2 Mn
open TL (numL)
/-! ### roots of drawn numbers -/
/-- a loop over a list that draws numbers -/
theorem for_k {C : CallS} {j : Nat} {src : CE} {b : List CS} {sm : MSt} {h h1 : MH} {a s q : Nat} {xs : List MV} (K : MSt → Prop) (hs : evE gs C src sm h = .ok (.ref a) h1) (ha : h1[a]? = some (.lst xs)) (ne : a ≠ s) (st : StOk h1 s q) (h0 : K sm)
    (step : ∀ x ∈ xs, ∀ sm H, K sm → Keep s h1 H → StOk H s q → ∃ sm2 H2, (evB gs C b (sm.set j (some x)) H = .nx sm2 H2 ∨ evB gs C b (sm.set j (some x)) H = .ct sm2 H2) ∧ K sm2 ∧ Keep s h1 H2 ∧ StOk H2 s q) :
    ∃ sm' h', evS gs C (.for_ (.one j) 0 [src] b) sm h = .nx sm' h' ∧ K sm' ∧ Keep s h1 h' ∧ StOk h' s q := by
  obtain ⟨sm', h', e, i1, i2, i3⟩ := forC_run (tg := .one j) (it := .lst a) (b := fun sm h => evB gs C b sm h) xs.length (fun _ sm H => K sm ∧ Keep s h1 H ∧ StOk H s q) (m := xs.length + 1) (sm := sm) (h := h1) (Nat.lt_succ_self _) ⟨h0, Keep.refl, st⟩ (by
    rintro k sm H hk ⟨i1, i2, i3⟩
    have hx : xs[k]? = some xs[k] := List.getElem?_eq_getElem hk
    obtain ⟨sm2, H2, e1, e2, e3, e4⟩ := step xs[k] (List.getElem_mem hk) sm H i1 i2 i3
    exact ⟨xs[k], _, by rw [la_l (i2.get ne ha), hx], rfl, sm2, _, e1, e2, e3, e4⟩) (by
    rintro sm H ⟨i1, i2, i3⟩
    rw [la_l (i2.get ne ha), List.getElem?_eq_none (Nat.le_refl _)])
  refine ⟨sm', h', ?_, i1, i2, i3⟩
  rw [evS_for (evI_l hs ha), lf_l ha, e]
def txtE : CE := .bin .Add (.bin .Add (.bin .Add (.bin .Add (.blt .str [.v 10]) (.k (.str [32]))) (.ite (.tcmp .Is (.v 11) (.k .non)) (.k (.str [45])) (.blt .str [.v 11]))) (.k (.str [32]))) (.blt .str [.v 12])
def set12 : CS := .set 12 (.call 48 [.v 1, .k (.int 1000000)] [] false)
def if15 : CS := .ite (.tbo .Or [.tnot (.tv (.call 49 [.call 12 [.v 10, .v 11, .v 12] [] false, .v 13] [] false)), .tnot (.tv (.call 49 [.call 13 [.v 13] [] false, .tup [.v 10, .v 11, .v 12]] [] false)), .tcmp .IsNot (.call 7 [.call 3 [.v 13] [] false] [] false) (.k (.bl true))]) [.rt (.k (.bl false))] []
def b15 : List CS := [set12, .set 13 txtE, if15]
def o15 : List CS := [.for_ (.one 11) 0 [.lst [.k .non, .k (.int 0), .v 10]] b15]
def st15 : CS := .for_ (.one 10) 0 [.sl (.v 2) none (some (.k (.int 6)))] o15
theorem root_chars {a m : Nat} {p : Option Nat} {c : Nat} (hc : c ∈ rootT a p m) : plainC c := by
  have dg : ∀ k : Nat, c ∈ numL k → plainC c := fun k hk => by
    have := TL.numL_digits k c hk
    unfold plainC
    omega
  have : c ∈ numL a ∨ c = 32 ∨ c ∈ pgT p ∨ c = 32 ∨ c ∈ numL m := by
    simpa [rootT, or_assoc] using hc
  rcases this with h | h | h | h | h
  · exact dg _ h
  · subst h; unfold plainC; omega
  · cases p with
    | none =>
      have : c = 45 := by simpa [pgT] using h
      subst this; unfold plainC; omega
    | some k => exact dg k h
  · subst h; unfold plainC; omega
  · exact dg _ h
section
variable {s q b2 b3 b4 b5 : Nat} {H : MH} {L : List Nat} {x0 : MV} {x6 x7 x8 x9 x10 x11 x12 x13 x14 x15 x16 x17 x18 x19 x20 : Option MV}
theorem txt_ev (C : CallS) (v m : Nat) (p : Option Nat) (hv : v < 1000000) (hm : m < 1000000) (hp : ∀ k, p = some k → k < 1000000) : evE gs C txtE [some x0, some (.ref s), some (.ref b2), some (.ref b3), some (.ref b4), some (.ref b5), x6, x7, x8, x9, some (.int (v : Nat)), some (pgV p), some (.int (m : Nat)), x13, x14, x15, x16, x17, x18, x19, x20] H = .ok (.str (rootT v p m)) H := by
  have la := numL6 hv
  have lm := numL6 hm
  have lp := pgT_len hp
  have s1 : bltM .str H [.int (v : Nat)] = .ok (.str (numL v)) H := strN (by omega)
  have s2 : bltM .str H [.int (m : Nat)] = .ok (.str (numL m)) H := strN (by omega)
  have d1 : binM .Add H (.str (numL v)) (.str [32]) = .ok (.str (numL v ++ [32])) H := b_lim (by simp; omega)
  have d2 : binM .Add H (.str (numL v ++ [32])) (.str (pgT p)) = .ok (.str (numL v ++ [32] ++ pgT p)) H := b_lim (by simp; omega)
  have d3 : binM .Add H (.str (numL v ++ [32] ++ pgT p)) (.str [32]) = .ok (.str (numL v ++ [32] ++ pgT p ++ [32])) H := b_lim (by simp; omega)
  have d4 : binM .Add H (.str (numL v ++ [32] ++ pgT p ++ [32])) (.str (numL m)) = .ok (.str (rootT v p m)) H := b_lim (by simp; omega)
  have pv : evE gs C (.ite (.tcmp .Is (.v 11) (.k .non)) (.k (.str [45])) (.blt .str [.v 11])) [some x0, some (.ref s), some (.ref b2), some (.ref b3), some (.ref b4), some (.ref b5), x6, x7, x8, x9, some (.int (v : Nat)), some (pgV p), some (.int (m : Nat)), x13, x14, x15, x16, x17, x18, x19, x20] H = .ok (.str (pgT p)) H := by
    cases p with
    | none => simp only [evB, evS, evE, evT, evEs, evBo, evBoT, evIfC, evP, evI, bind_ok, bind_ex, bind_err, then_ok, then_ex, then_err, opt_some, opt_none, gd_f, gd_ok, t_non, t_bl, t_int, t_tup, b_ii, b_sub, c_eq_i, c_ne_i, c_eq_s, c_ne_s, c_eq_b, c_ne_b, c_lt_i, c_gt_i, c_le_i, c_ge_i, m_lt_i, m_le_i, m_le_s, c_is_n, c_isn_n, c_is_b, c_isn_b, is_n, is_i, is_s, is_b, is_t, is_r, c_in_c, c_nin_c, l_t, i_i, o_c, ix_t, ty_n, ty_b, ty_i, ty_s, ty_t, isinM, asgC, setAll, List.map_cons, List.map_nil, List.cons_append, List.nil_append, List.length_cons, List.length_nil, List.replicate_succ, List.replicate_zero, List.getElem?_cons_zero, List.getElem?_cons_succ, List.getElem?_nil, List.set_cons_zero, List.set_cons_succ, if_true, if_false, Bool.not_true, Bool.not_false, Bool.false_eq_true, Option.map_some, Option.map_none, List.any_cons, List.any_nil, Bool.or_false, Bool.false_or, Bool.or_true, Bool.true_or, Bool.and_true, Bool.true_and, Bool.false_and, Bool.and_false, beq_self_eq_true, String.reduceBEq, decide_true, decide_false, Nat.reduceAdd, Nat.reduceSub, Nat.zero_add, Int.natAbs_natCast, and_self, true_and, and_true, List.isEmpty_cons, List.isEmpty_nil, Option.isSome_some, Option.isSome_none, List.append_nil, pgV, pgT]
    | some k =>
      have s3 : bltM .str H [.int (k : Nat)] = .ok (.str (numL k)) H := strN (by have := hp k rfl; omega)
      simp only [evB, evS, evE, evT, evEs, evBo, evBoT, evIfC, evP, evI, bind_ok, bind_ex, bind_err, then_ok, then_ex, then_err, opt_some, opt_none, gd_f, gd_ok, t_non, t_bl, t_int, t_tup, b_ii, b_sub, c_eq_i, c_ne_i, c_eq_s, c_ne_s, c_eq_b, c_ne_b, c_lt_i, c_gt_i, c_le_i, c_ge_i, m_lt_i, m_le_i, m_le_s, c_is_n, c_isn_n, c_is_b, c_isn_b, is_n, is_i, is_s, is_b, is_t, is_r, c_in_c, c_nin_c, l_t, i_i, o_c, ix_t, ty_n, ty_b, ty_i, ty_s, ty_t, isinM, asgC, setAll, List.map_cons, List.map_nil, List.cons_append, List.nil_append, List.length_cons, List.length_nil, List.replicate_succ, List.replicate_zero, List.getElem?_cons_zero, List.getElem?_cons_succ, List.getElem?_nil, List.set_cons_zero, List.set_cons_succ, if_true, if_false, Bool.not_true, Bool.not_false, Bool.false_eq_true, Option.map_some, Option.map_none, List.any_cons, List.any_nil, Bool.or_false, Bool.false_or, Bool.or_true, Bool.true_or, Bool.and_true, Bool.true_and, Bool.false_and, Bool.and_false, beq_self_eq_true, String.reduceBEq, decide_true, decide_false, Nat.reduceAdd, Nat.reduceSub, Nat.zero_add, Int.natAbs_natCast, and_self, true_and, and_true, List.isEmpty_cons, List.isEmpty_nil, Option.isSome_some, Option.isSome_none, List.append_nil, pgV, pgT, s3]
  unfold txtE
  generalize (CE.ite (.tcmp .Is (.v 11) (.k .non)) (.k (.str [45])) (.blt .str [.v 11])) = N at pv ⊢
  generalize pgV p = P at pv ⊢
  simp only [evB, evS, evE, evT, evEs, evBo, evBoT, evIfC, evP, evI, bind_ok, bind_ex, bind_err, then_ok, then_ex, then_err, opt_some, opt_none, gd_f, gd_ok, t_non, t_bl, t_int, t_tup, b_ii, b_sub, c_eq_i, c_ne_i, c_eq_s, c_ne_s, c_eq_b, c_ne_b, c_lt_i, c_gt_i, c_le_i, c_ge_i, m_lt_i, m_le_i, m_le_s, c_is_n, c_isn_n, c_is_b, c_isn_b, is_n, is_i, is_s, is_b, is_t, is_r, c_in_c, c_nin_c, l_t, i_i, o_c, ix_t, ty_n, ty_b, ty_i, ty_s, ty_t, isinM, asgC, setAll, List.map_cons, List.map_nil, List.cons_append, List.nil_append, List.length_cons, List.length_nil, List.replicate_succ, List.replicate_zero, List.getElem?_cons_zero, List.getElem?_cons_succ, List.getElem?_nil, List.set_cons_zero, List.set_cons_succ, if_true, if_false, Bool.not_true, Bool.not_false, Bool.false_eq_true, Option.map_some, Option.map_none, List.any_cons, List.any_nil, Bool.or_false, Bool.false_or, Bool.or_true, Bool.true_or, Bool.and_true, Bool.true_and, Bool.false_and, Bool.and_false, beq_self_eq_true, String.reduceBEq, decide_true, decide_false, Nat.reduceAdd, Nat.reduceSub, Nat.zero_add, Int.natAbs_natCast, and_self, true_and, and_true, List.isEmpty_cons, List.isEmpty_nil, Option.isSome_some, Option.isSome_none, List.append_nil, s1, s2, pv, d1, d2, d3, d4]
theorem if15_ev (n v m : Nat) (p : Option Nat) (hv : v < 1000000) (hm : m < 1000000) (hp : ∀ k, p = some k → k < 1000000) : ∃ g, evS gs (cc (n + 4)) if15 [some x0, some (.ref s), some (.ref b2), some (.ref b3), some (.ref b4), some (.ref b5), x6, x7, x8, x9, some (.int (v : Nat)), some (pgV p), some (.int (m : Nat)), some (.str (rootT v p m)), x14, x15, x16, x17, x18, x19, x20] H = .nx [some x0, some (.ref s), some (.ref b2), some (.ref b3), some (.ref b4), some (.ref b5), x6, x7, x8, x9, some (.int (v : Nat)), some (pgV p), some (.int (m : Nat)), some (.str (rootT v p m)), x14, x15, x16, x17, x18, x19, x20] (H ++ g) := by
  have hl := rootT_len hv hm hp
  have l3 : (3 : Nat) ≤ lim := by unfold lim; omega
  have c1 := r12 (n + 1) v m p H hv hm hp
  obtain ⟨g1, c2⟩ := r13 n v m p H hv hm hp
  obtain ⟨g2, c3⟩ := r3 (n + 2) (rootT v p m) (H ++ g1) (by omega) (fun c hc => root_chars hc)
  obtain ⟨g3, c4⟩ := r7 n (rootT v p m) (H ++ g1 ++ g2) (by omega) (fun hc => (root_chars hc).2.2 rfl)
  have q1 : eqD 1 H (.str (rootT v p m)) (.str (rootT v p m)) := .inr (.inr (.inr (.inl ⟨_, rfl, rfl⟩)))
  have qi : ∀ k : Nat, eqD 1 (H ++ g1) (.int k) (.int k) := fun k => .inr (.inr (.inl ⟨_, rfl, rfl⟩))
  have qp : eqD 1 (H ++ g1) (pgV p) (pgV p) := by
    cases p with
    | none => exact .inl ⟨rfl, rfl⟩
    | some k => exact qi k
  have q2 : eqD 2 (H ++ g1) (.tup [.int v, pgV p, .int m]) (.tup [.int v, pgV p, .int m]) := .inr (.inr (.inr (.inr (.inl ⟨_, _, rfl, rfl, by simp, .cons (qi v) (.cons qp (.cons (qi m) .nil))⟩))))
  refine ⟨g1 ++ g2 ++ g3, ?_⟩
  generalize rootT v p m = R at *
  generalize pgV p = P at *
  have f1 := same_Tk (k := n + 4) (e := .call 12 [.v 10, .v 11, .v 12] [] false) (e' := .v 13) (sm := [some x0, some (.ref s), some (.ref b2), some (.ref b3), some (.ref b4), some (.ref b5), x6, x7, x8, x9, some (.int (v : Nat)), some P, some (.int (m : Nat)), some (.str R), x14, x15, x16, x17, x18, x19, x20]) 1 (by omega) (h := H) (h1 := H) (by simp only [evB, evS, evE, evT, evEs, evBo, evBoT, evIfC, evP, evI, bind_ok, bind_ex, bind_err, then_ok, then_ex, then_err, opt_some, opt_none, gd_f, gd_ok, t_non, t_bl, t_int, t_tup, b_ii, b_sub, c_eq_i, c_ne_i, c_eq_s, c_ne_s, c_eq_b, c_ne_b, c_lt_i, c_gt_i, c_le_i, c_ge_i, m_lt_i, m_le_i, m_le_s, c_is_n, c_isn_n, c_is_b, c_isn_b, is_n, is_i, is_s, is_b, is_t, is_r, c_in_c, c_nin_c, l_t, i_i, o_c, ix_t, ty_n, ty_b, ty_i, ty_s, ty_t, isinM, asgC, setAll, List.map_cons, List.map_nil, List.cons_append, List.nil_append, List.length_cons, List.length_nil, List.replicate_succ, List.replicate_zero, List.getElem?_cons_zero, List.getElem?_cons_succ, List.getElem?_nil, List.set_cons_zero, List.set_cons_succ, if_true, if_false, Bool.not_true, Bool.not_false, Bool.false_eq_true, Option.map_some, Option.map_none, List.any_cons, List.any_nil, Bool.or_false, Bool.false_or, Bool.or_true, Bool.true_or, Bool.and_true, Bool.true_and, Bool.false_and, Bool.and_false, beq_self_eq_true, String.reduceBEq, decide_true, decide_false, Nat.reduceAdd, Nat.reduceSub, Nat.zero_add, Int.natAbs_natCast, and_self, true_and, and_true, List.isEmpty_cons, List.isEmpty_nil, Option.isSome_some, Option.isSome_none, List.append_nil, c1]) (by simp only [evB, evS, evE, evT, evEs, evBo, evBoT, evIfC, evP, evI, bind_ok, bind_ex, bind_err, then_ok, then_ex, then_err, opt_some, opt_none, gd_f, gd_ok, t_non, t_bl, t_int, t_tup, b_ii, b_sub, c_eq_i, c_ne_i, c_eq_s, c_ne_s, c_eq_b, c_ne_b, c_lt_i, c_gt_i, c_le_i, c_ge_i, m_lt_i, m_le_i, m_le_s, c_is_n, c_isn_n, c_is_b, c_isn_b, is_n, is_i, is_s, is_b, is_t, is_r, c_in_c, c_nin_c, l_t, i_i, o_c, ix_t, ty_n, ty_b, ty_i, ty_s, ty_t, isinM, asgC, setAll, List.map_cons, List.map_nil, List.cons_append, List.nil_append, List.length_cons, List.length_nil, List.replicate_succ, List.replicate_zero, List.getElem?_cons_zero, List.getElem?_cons_succ, List.getElem?_nil, List.set_cons_zero, List.set_cons_succ, if_true, if_false, Bool.not_true, Bool.not_false, Bool.false_eq_true, Option.map_some, Option.map_none, List.any_cons, List.any_nil, Bool.or_false, Bool.false_or, Bool.or_true, Bool.true_or, Bool.and_true, Bool.true_and, Bool.false_and, Bool.and_false, beq_self_eq_true, String.reduceBEq, decide_true, decide_false, Nat.reduceAdd, Nat.reduceSub, Nat.zero_add, Int.natAbs_natCast, and_self, true_and, and_true, List.isEmpty_cons, List.isEmpty_nil, Option.isSome_some, Option.isSome_none, List.append_nil]) q1
  have f2 := same_Tk (k := n + 4) (e := .call 13 [.v 13] [] false) (e' := .tup [.v 10, .v 11, .v 12]) (sm := [some x0, some (.ref s), some (.ref b2), some (.ref b3), some (.ref b4), some (.ref b5), x6, x7, x8, x9, some (.int (v : Nat)), some P, some (.int (m : Nat)), some (.str R), x14, x15, x16, x17, x18, x19, x20]) 2 (by omega) (h := H) (h1 := H ++ g1) (by simp only [evB, evS, evE, evT, evEs, evBo, evBoT, evIfC, evP, evI, bind_ok, bind_ex, bind_err, then_ok, then_ex, then_err, opt_some, opt_none, gd_f, gd_ok, t_non, t_bl, t_int, t_tup, b_ii, b_sub, c_eq_i, c_ne_i, c_eq_s, c_ne_s, c_eq_b, c_ne_b, c_lt_i, c_gt_i, c_le_i, c_ge_i, m_lt_i, m_le_i, m_le_s, c_is_n, c_isn_n, c_is_b, c_isn_b, is_n, is_i, is_s, is_b, is_t, is_r, c_in_c, c_nin_c, l_t, i_i, o_c, ix_t, ty_n, ty_b, ty_i, ty_s, ty_t, isinM, asgC, setAll, List.map_cons, List.map_nil, List.cons_append, List.nil_append, List.length_cons, List.length_nil, List.replicate_succ, List.replicate_zero, List.getElem?_cons_zero, List.getElem?_cons_succ, List.getElem?_nil, List.set_cons_zero, List.set_cons_succ, if_true, if_false, Bool.not_true, Bool.not_false, Bool.false_eq_true, Option.map_some, Option.map_none, List.any_cons, List.any_nil, Bool.or_false, Bool.false_or, Bool.or_true, Bool.true_or, Bool.and_true, Bool.true_and, Bool.false_and, Bool.and_false, beq_self_eq_true, String.reduceBEq, decide_true, decide_false, Nat.reduceAdd, Nat.reduceSub, Nat.zero_add, Int.natAbs_natCast, and_self, true_and, and_true, List.isEmpty_cons, List.isEmpty_nil, Option.isSome_some, Option.isSome_none, List.append_nil, c2]) (by simp only [evB, evS, evE, evT, evEs, evBo, evBoT, evIfC, evP, evI, bind_ok, bind_ex, bind_err, then_ok, then_ex, then_err, opt_some, opt_none, gd_f, gd_ok, t_non, t_bl, t_int, t_tup, b_ii, b_sub, c_eq_i, c_ne_i, c_eq_s, c_ne_s, c_eq_b, c_ne_b, c_lt_i, c_gt_i, c_le_i, c_ge_i, m_lt_i, m_le_i, m_le_s, c_is_n, c_isn_n, c_is_b, c_isn_b, is_n, is_i, is_s, is_b, is_t, is_r, c_in_c, c_nin_c, l_t, i_i, o_c, ix_t, ty_n, ty_b, ty_i, ty_s, ty_t, isinM, asgC, setAll, List.map_cons, List.map_nil, List.cons_append, List.nil_append, List.length_cons, List.length_nil, List.replicate_succ, List.replicate_zero, List.getElem?_cons_zero, List.getElem?_cons_succ, List.getElem?_nil, List.set_cons_zero, List.set_cons_succ, if_true, if_false, Bool.not_true, Bool.not_false, Bool.false_eq_true, Option.map_some, Option.map_none, List.any_cons, List.any_nil, Bool.or_false, Bool.false_or, Bool.or_true, Bool.true_or, Bool.and_true, Bool.true_and, Bool.false_and, Bool.and_false, beq_self_eq_true, String.reduceBEq, decide_true, decide_false, Nat.reduceAdd, Nat.reduceSub, Nat.zero_add, Int.natAbs_natCast, and_self, true_and, and_true, List.isEmpty_cons, List.isEmpty_nil, Option.isSome_some, Option.isSome_none, List.append_nil, l3]) q2
  have f3 : evT gs (cc (n + 4)) (.tcmp .IsNot (.call 7 [.call 3 [.v 13] [] false] [] false) (.k (.bl true))) [some x0, some (.ref s), some (.ref b2), some (.ref b3), some (.ref b4), some (.ref b5), x6, x7, x8, x9, some (.int (v : Nat)), some P, some (.int (m : Nat)), some (.str R), x14, x15, x16, x17, x18, x19, x20] (H ++ g1) = .ok false (H ++ g1 ++ g2 ++ g3) := by
    simp only [evB, evS, evE, evT, evEs, evBo, evBoT, evIfC, evP, evI, bind_ok, bind_ex, bind_err, then_ok, then_ex, then_err, opt_some, opt_none, gd_f, gd_ok, t_non, t_bl, t_int, t_tup, b_ii, b_sub, c_eq_i, c_ne_i, c_eq_s, c_ne_s, c_eq_b, c_ne_b, c_lt_i, c_gt_i, c_le_i, c_ge_i, m_lt_i, m_le_i, m_le_s, c_is_n, c_isn_n, c_is_b, c_isn_b, is_n, is_i, is_s, is_b, is_t, is_r, c_in_c, c_nin_c, l_t, i_i, o_c, ix_t, ty_n, ty_b, ty_i, ty_s, ty_t, isinM, asgC, setAll, List.map_cons, List.map_nil, List.cons_append, List.nil_append, List.length_cons, List.length_nil, List.replicate_succ, List.replicate_zero, List.getElem?_cons_zero, List.getElem?_cons_succ, List.getElem?_nil, List.set_cons_zero, List.set_cons_succ, if_true, if_false, Bool.not_true, Bool.not_false, Bool.false_eq_true, Option.map_some, Option.map_none, List.any_cons, List.any_nil, Bool.or_false, Bool.false_or, Bool.or_true, Bool.true_or, Bool.and_true, Bool.true_and, Bool.false_and, Bool.and_false, beq_self_eq_true, String.reduceBEq, decide_true, decide_false, Nat.reduceAdd, Nat.reduceSub, Nat.zero_add, Int.natAbs_natCast, and_self, true_and, and_true, List.isEmpty_cons, List.isEmpty_nil, Option.isSome_some, Option.isSome_none, List.append_nil, c3, c4]
  unfold if15
  rw [← List.append_assoc, ← List.append_assoc]
  exact ite_f (or_f f1 (or_f f2 (or_1 f3) (by simp)) (by simp))
theorem e_15b (n v : Nat) (p : Option Nat) (w : Wd H s q b2 b3 b4 b5 L) (hv : v < 1000000) (hp : ∀ k, p = some k → k < 1000000) : ∃ z12 z13 H', evB gs (cc (n + 4)) b15 [some x0, some (.ref s), some (.ref b2), some (.ref b3), some (.ref b4), some (.ref b5), x6, x7, x8, x9, some (.int (v : Nat)), some (pgV p), x12, x13, x14, x15, x16, x17, x18, x19, x20] H = .nx [some x0, some (.ref s), some (.ref b2), some (.ref b3), some (.ref b4), some (.ref b5), x6, x7, x8, x9, some (.int (v : Nat)), some (pgV p), z12, z13, x14, x15, x16, x17, x18, x19, x20] H' ∧ Keep s H H' ∧ StOk H' s q := by
  obtain ⟨m, o, m0, m1, e1, st1⟩ := r48 (n + 3) (lm := 1000000) w.st (by omega)
  obtain ⟨m, rfl⟩ := Int.eq_ofNat_of_zero_le m0
  have hm : m < 1000000 := by omega
  have k1 : Keep s H (H.set s o) := Keep.refl.setS
  generalize H.set s o = H1 at e1 st1 k1
  have e2 := txt_ev (x0 := x0) (x6 := x6) (x7 := x7) (x8 := x8) (x9 := x9) (x13 := x13) (x14 := x14) (x15 := x15) (x16 := x16) (x17 := x17) (x18 := x18) (x19 := x19) (x20 := x20) (s := s) (b2 := b2) (b3 := b3) (b4 := b4) (b5 := b5) (H := H1) (cc (n + 4)) v m p hv hm hp
  obtain ⟨g, e3⟩ := if15_ev (x0 := x0) (x6 := x6) (x7 := x7) (x8 := x8) (x9 := x9) (x14 := x14) (x15 := x15) (x16 := x16) (x17 := x17) (x18 := x18) (x19 := x19) (x20 := x20) (s := s) (b2 := b2) (b3 := b3) (b4 := b4) (b5 := b5) (H := H1) n v m p hv hm hp
  refine ⟨some (.int (m : Nat)), some (.str (rootT v p m)), H1 ++ g, ?_, k1.app, st1.app⟩
  unfold b15 set12
  generalize txtE = N at e2 ⊢
  generalize if15 = F at e3 ⊢
  generalize rootT v p m = R at *
  generalize pgV p = P at *
  simp only [evB, evS, evE, evT, evEs, evBo, evBoT, evIfC, evP, evI, bind_ok, bind_ex, bind_err, then_ok, then_ex, then_err, opt_some, opt_none, gd_f, gd_ok, t_non, t_bl, t_int, t_tup, b_ii, b_sub, c_eq_i, c_ne_i, c_eq_s, c_ne_s, c_eq_b, c_ne_b, c_lt_i, c_gt_i, c_le_i, c_ge_i, m_lt_i, m_le_i, m_le_s, c_is_n, c_isn_n, c_is_b, c_isn_b, is_n, is_i, is_s, is_b, is_t, is_r, c_in_c, c_nin_c, l_t, i_i, o_c, ix_t, ty_n, ty_b, ty_i, ty_s, ty_t, isinM, asgC, setAll, List.map_cons, List.map_nil, List.cons_append, List.nil_append, List.length_cons, List.length_nil, List.replicate_succ, List.replicate_zero, List.getElem?_cons_zero, List.getElem?_cons_succ, List.getElem?_nil, List.set_cons_zero, List.set_cons_succ, if_true, if_false, Bool.not_true, Bool.not_false, Bool.false_eq_true, Option.map_some, Option.map_none, List.any_cons, List.any_nil, Bool.or_false, Bool.false_or, Bool.or_true, Bool.true_or, Bool.and_true, Bool.true_and, Bool.false_and, Bool.and_false, beq_self_eq_true, String.reduceBEq, decide_true, decide_false, Nat.reduceAdd, Nat.reduceSub, Nat.zero_add, Int.natAbs_natCast, and_self, true_and, and_true, List.isEmpty_cons, List.isEmpty_nil, Option.isSome_some, Option.isSome_none, List.append_nil, e1, e2, e3]
theorem e_15o (n v : Nat) (w : Wd H s q b2 b3 b4 b5 L) (hv : v < 1000000) : ∃ z11 z12 z13 H', evB gs (cc (n + 4)) o15 [some x0, some (.ref s), some (.ref b2), some (.ref b3), some (.ref b4), some (.ref b5), x6, x7, x8, x9, some (.int (v : Nat)), x11, x12, x13, x14, x15, x16, x17, x18, x19, x20] H = .nx [some x0, some (.ref s), some (.ref b2), some (.ref b3), some (.ref b4), some (.ref b5), x6, x7, x8, x9, some (.int (v : Nat)), z11, z12, z13, x14, x15, x16, x17, x18, x19, x20] H' ∧ Keep s H H' ∧ StOk H' s q := by
  have l3 : (3 : Nat) ≤ lim := by unfold lim; omega
  have e0 : evE gs (cc (n + 4)) (.lst [.k .non, .k (.int 0), .v 10]) [some x0, some (.ref s), some (.ref b2), some (.ref b3), some (.ref b4), some (.ref b5), x6, x7, x8, x9, some (.int (v : Nat)), x11, x12, x13, x14, x15, x16, x17, x18, x19, x20] H = .ok (.ref H.length) (H ++ [.lst [.non, .int 0, .int (v : Nat)]]) := by simp only [evB, evS, evE, evT, evEs, evBo, evBoT, evIfC, evP, evI, bind_ok, bind_ex, bind_err, then_ok, then_ex, then_err, opt_some, opt_none, gd_f, gd_ok, t_non, t_bl, t_int, t_tup, b_ii, b_sub, c_eq_i, c_ne_i, c_eq_s, c_ne_s, c_eq_b, c_ne_b, c_lt_i, c_gt_i, c_le_i, c_ge_i, m_lt_i, m_le_i, m_le_s, c_is_n, c_isn_n, c_is_b, c_isn_b, is_n, is_i, is_s, is_b, is_t, is_r, c_in_c, c_nin_c, l_t, i_i, o_c, ix_t, ty_n, ty_b, ty_i, ty_s, ty_t, isinM, asgC, setAll, List.map_cons, List.map_nil, List.cons_append, List.nil_append, List.length_cons, List.length_nil, List.replicate_succ, List.replicate_zero, List.getElem?_cons_zero, List.getElem?_cons_succ, List.getElem?_nil, List.set_cons_zero, List.set_cons_succ, if_true, if_false, Bool.not_true, Bool.not_false, Bool.false_eq_true, Option.map_some, Option.map_none, List.any_cons, List.any_nil, Bool.or_false, Bool.false_or, Bool.or_true, Bool.true_or, Bool.and_true, Bool.true_and, Bool.false_and, Bool.and_false, beq_self_eq_true, String.reduceBEq, decide_true, decide_false, Nat.reduceAdd, Nat.reduceSub, Nat.zero_add, Int.natAbs_natCast, and_self, true_and, and_true, List.isEmpty_cons, List.isEmpty_nil, Option.isSome_some, Option.isSome_none, List.append_nil, l3, lay]
  have hs := w.lts.1
  obtain ⟨sm', H', e, ⟨z11, z12, z13, rfl⟩, k, st⟩ := for_k (j := 11) (b := b15) (fun sm => ∃ z11 z12 z13, sm = [some x0, some (.ref s), some (.ref b2), some (.ref b3), some (.ref b4), some (.ref b5), x6, x7, x8, x9, some (.int (v : Nat)), z11, z12, z13, x14, x15, x16, x17, x18, x19, x20]) e0 get_new (by omega) w.st.app ⟨x11, x12, x13, rfl⟩ (by
    rintro x hx sm H2 ⟨z11, z12, z13, rfl⟩ hk hst
    have : ∃ p : Option Nat, x = pgV p ∧ ∀ k, p = some k → k < 1000000 := by
      simp only [List.mem_cons, List.not_mem_nil, or_false] at hx
      rcases hx with rfl | rfl | rfl
      · exact ⟨none, rfl, fun k hk => by cases hk⟩
      · exact ⟨some 0, rfl, fun k hk => by cases hk; omega⟩
      · exact ⟨some v, rfl, fun k hk => by cases hk; exact hv⟩
    obtain ⟨p, rfl, hp⟩ := this
    obtain ⟨y12, y13, H3, f1, f2, f3⟩ := e_15b (x0 := x0) (x6 := x6) (x7 := x7) (x8 := x8) (x9 := x9) (x12 := z12) (x13 := z13) (x14 := x14) (x15 := x15) (x16 := x16) (x17 := x17) (x18 := x18) (x19 := x19) (x20 := x20) n v p ((w.app (g := [.lst [.non, .int 0, .int (v : Nat)]])).keep hk hst) hv hp
    exact ⟨_, H3, .inl f1, ⟨some (pgV p), y12, y13, rfl⟩, hk.trans f2, f3⟩)
  refine ⟨z11, z12, z13, H', ?_, Keep.refl.app.trans k, st⟩
  unfold o15
  simp only [evB, e]
theorem e_15 (n : Nat) (w : Wd H s q b2 b3 b4 b5 L) : ∃ z10 z11 z12 z13 H', evS gs (cc (n + 4)) st15 [some x0, some (.ref s), some (.ref b2), some (.ref b3), some (.ref b4), some (.ref b5), x6, x7, x8, x9, x10, x11, x12, x13, x14, x15, x16, x17, x18, x19, x20] H = .nx [some x0, some (.ref s), some (.ref b2), some (.ref b3), some (.ref b4), some (.ref b5), x6, x7, x8, x9, z10, z11, z12, z13, x14, x15, x16, x17, x18, x19, x20] H' ∧ Wd H' s q b2 b3 b4 b5 L := by
  have e0 : evE gs (cc (n + 4)) (.sl (.v 2) none (some (.k (.int 6)))) [some x0, some (.ref s), some (.ref b2), some (.ref b3), some (.ref b4), some (.ref b5), x6, x7, x8, x9, x10, x11, x12, x13, x14, x15, x16, x17, x18, x19, x20] H = .ok (.ref H.length) (H ++ [.lst (cutL (iL L) none (some 6))]) := by simp only [evB, evS, evE, evT, evEs, evBo, evBoT, evIfC, evP, evI, bind_ok, bind_ex, bind_err, then_ok, then_ex, then_err, opt_some, opt_none, gd_f, gd_ok, t_non, t_bl, t_int, t_tup, b_ii, b_sub, c_eq_i, c_ne_i, c_eq_s, c_ne_s, c_eq_b, c_ne_b, c_lt_i, c_gt_i, c_le_i, c_ge_i, m_lt_i, m_le_i, m_le_s, c_is_n, c_isn_n, c_is_b, c_isn_b, is_n, is_i, is_s, is_b, is_t, is_r, c_in_c, c_nin_c, l_t, i_i, o_c, ix_t, ty_n, ty_b, ty_i, ty_s, ty_t, isinM, asgC, setAll, List.map_cons, List.map_nil, List.cons_append, List.nil_append, List.length_cons, List.length_nil, List.replicate_succ, List.replicate_zero, List.getElem?_cons_zero, List.getElem?_cons_succ, List.getElem?_nil, List.set_cons_zero, List.set_cons_succ, if_true, if_false, Bool.not_true, Bool.not_false, Bool.false_eq_true, Option.map_some, Option.map_none, List.any_cons, List.any_nil, Bool.or_false, Bool.false_or, Bool.or_true, Bool.true_or, Bool.and_true, Bool.true_and, Bool.false_and, Bool.and_false, beq_self_eq_true, String.reduceBEq, decide_true, decide_false, Nat.reduceAdd, Nat.reduceSub, Nat.zero_add, Int.natAbs_natCast, and_self, true_and, and_true, List.isEmpty_cons, List.isEmpty_nil, Option.isSome_some, Option.isSome_none, List.append_nil, sl_l w.e2]
  have hs := w.lts.1
  obtain ⟨sm', H', e, ⟨z10, z11, z12, z13, rfl⟩, k, st⟩ := for_k (j := 10) (b := o15) (fun sm => ∃ z10 z11 z12 z13, sm = [some x0, some (.ref s), some (.ref b2), some (.ref b3), some (.ref b4), some (.ref b5), x6, x7, x8, x9, z10, z11, z12, z13, x14, x15, x16, x17, x18, x19, x20]) e0 get_new (by omega) w.st.app ⟨x10, x11, x12, x13, rfl⟩ (by
    rintro x hx sm H2 ⟨z10, z11, z12, z13, rfl⟩ hk hst
    have : x ∈ iL L := by
      unfold cutL at hx
      exact List.mem_of_mem_drop (List.mem_of_mem_take hx)
    obtain ⟨v, hv, rfl⟩ := List.mem_map.mp this
    obtain ⟨y11, y12, y13, H3, f1, f2, f3⟩ := e_15o (x0 := x0) (x6 := x6) (x7 := x7) (x8 := x8) (x9 := x9) (x11 := z11) (x12 := z12) (x13 := z13) (x14 := x14) (x15 := x15) (x16 := x16) (x17 := x17) (x18 := x18) (x19 := x19) (x20 := x20) n v ((w.app (g := [.lst (cutL (iL L) none (some 6))])).keep hk hst) (w.u.2.1 v hv)
    exact ⟨_, H3, .inl f1, ⟨some (.int (v : Nat)), y11, y12, y13, rfl⟩, hk.trans f2, f3⟩)
  refine ⟨z10, z11, z12, z13, H', ?_, (w.app (g := [.lst (cutL (iL L) none (some 6))])).keep k st⟩
  unfold st15
  exact e
end
/-! ### texts that are no roots -/
def b16 : List CS := [.trS 3 .ct [.ex (.call 13 [.v 13] [] false), .rt (.k (.bl false))]]
def st16 : CS := .for_ (.one 13) 0 [.lst (bads.map fun w => .k (.str w))] b16
section
variable {s q b2 b3 b4 b5 : Nat} {H : MH} {L : List Nat} {x0 : MV} {x6 x7 x8 x9 x10 x11 x12 x13 x14 x15 x16 x17 x18 x19 x20 : Option MV}
theorem e_16 (n : Nat) (w : Wd H s q b2 b3 b4 b5 L) : ∃ z13 H', evS gs (cc (n + 4)) st16 [some x0, some (.ref s), some (.ref b2), some (.ref b3), some (.ref b4), some (.ref b5), x6, x7, x8, x9, x10, x11, x12, x13, x14, x15, x16, x17, x18, x19, x20] H = .nx [some x0, some (.ref s), some (.ref b2), some (.ref b3), some (.ref b4), some (.ref b5), x6, x7, x8, x9, x10, x11, x12, z13, x14, x15, x16, x17, x18, x19, x20] H' ∧ Wd H' s q b2 b3 b4 b5 L := by
  have l9 : (9 : Nat) ≤ lim := by unfold lim; omega
  have e : evE gs (cc (n + 4)) (.lst (bads.map fun w => .k (.str w))) [some x0, some (.ref s), some (.ref b2), some (.ref b3), some (.ref b4), some (.ref b5), x6, x7, x8, x9, x10, x11, x12, x13, x14, x15, x16, x17, x18, x19, x20] H = .ok (.ref H.length) (H ++ [.lst (bads.map .str)]) := by
    unfold bads
    simp only [evB, evS, evE, evT, evEs, evBo, evBoT, evIfC, evP, evI, bind_ok, bind_ex, bind_err, then_ok, then_ex, then_err, opt_some, opt_none, gd_f, gd_ok, t_non, t_bl, t_int, t_tup, b_ii, b_sub, c_eq_i, c_ne_i, c_eq_s, c_ne_s, c_eq_b, c_ne_b, c_lt_i, c_gt_i, c_le_i, c_ge_i, m_lt_i, m_le_i, m_le_s, c_is_n, c_isn_n, c_is_b, c_isn_b, is_n, is_i, is_s, is_b, is_t, is_r, c_in_c, c_nin_c, l_t, i_i, o_c, ix_t, ty_n, ty_b, ty_i, ty_s, ty_t, isinM, asgC, setAll, List.map_cons, List.map_nil, List.cons_append, List.nil_append, List.length_cons, List.length_nil, List.replicate_succ, List.replicate_zero, List.getElem?_cons_zero, List.getElem?_cons_succ, List.getElem?_nil, List.set_cons_zero, List.set_cons_succ, if_true, if_false, Bool.not_true, Bool.not_false, Bool.false_eq_true, Option.map_some, Option.map_none, List.any_cons, List.any_nil, Bool.or_false, Bool.false_or, Bool.or_true, Bool.true_or, Bool.and_true, Bool.true_and, Bool.false_and, Bool.and_false, beq_self_eq_true, String.reduceBEq, decide_true, decide_false, Nat.reduceAdd, Nat.reduceSub, Nat.zero_add, Int.natAbs_natCast, and_self, true_and, and_true, List.isEmpty_cons, List.isEmpty_nil, Option.isSome_some, Option.isSome_none, List.append_nil, l9, lay]
  obtain ⟨sm', g2, e2, z13, hz⟩ := for_l (j := 13) (b := b16) (fun sm => ∃ z13, sm = [some x0, some (.ref s), some (.ref b2), some (.ref b3), some (.ref b4), some (.ref b5), x6, x7, x8, x9, x10, x11, x12, z13, x14, x15, x16, x17, x18, x19, x20]) e get_new ⟨x13, rfl⟩ (by
    rintro x hx sm H2 ⟨z13, rfl⟩ hH
    obtain ⟨wd, hw, rfl⟩ := List.mem_map.mp hx
    obtain ⟨g3, e3⟩ := r13x n wd H2 hw
    refine ⟨[some x0, some (.ref s), some (.ref b2), some (.ref b3), some (.ref b4), some (.ref b5), x6, x7, x8, x9, x10, x11, x12, some (.str wd), x14, x15, x16, x17, x18, x19, x20], g3, .inr ?_, some (.str wd), rfl⟩
    unfold b16
    simp only [evB, evS, evE, evT, evEs, evBo, evBoT, evIfC, evP, evI, bind_ok, bind_ex, bind_err, then_ok, then_ex, then_err, opt_some, opt_none, gd_f, gd_ok, t_non, t_bl, t_int, t_tup, b_ii, b_sub, c_eq_i, c_ne_i, c_eq_s, c_ne_s, c_eq_b, c_ne_b, c_lt_i, c_gt_i, c_le_i, c_ge_i, m_lt_i, m_le_i, m_le_s, c_is_n, c_isn_n, c_is_b, c_isn_b, is_n, is_i, is_s, is_b, is_t, is_r, c_in_c, c_nin_c, l_t, i_i, o_c, ix_t, ty_n, ty_b, ty_i, ty_s, ty_t, isinM, asgC, setAll, List.map_cons, List.map_nil, List.cons_append, List.nil_append, List.length_cons, List.length_nil, List.replicate_succ, List.replicate_zero, List.getElem?_cons_zero, List.getElem?_cons_succ, List.getElem?_nil, List.set_cons_zero, List.set_cons_succ, if_true, if_false, Bool.not_true, Bool.not_false, Bool.false_eq_true, Option.map_some, Option.map_none, List.any_cons, List.any_nil, Bool.or_false, Bool.false_or, Bool.or_true, Bool.true_or, Bool.and_true, Bool.true_and, Bool.false_and, Bool.and_false, beq_self_eq_true, String.reduceBEq, decide_true, decide_false, Nat.reduceAdd, Nat.reduceSub, Nat.zero_add, Int.natAbs_natCast, and_self, true_and, and_true, List.isEmpty_cons, List.isEmpty_nil, Option.isSome_some, Option.isSome_none, List.append_nil, e3, isA33])
  refine ⟨z13, _, ?_, (w.app (g := [.lst (bads.map .str)])).app (g := g2)⟩
  unfold st16
  rw [e2, hz]
end
end Pg
end

section
set_option linter.all false
set_option maxRecDepth 100000
set_option maxHeartbeats 1000000
namespace Pg
open PySem PySem.Spec L2 Mn
open TL (numL)
/-! ### keys of drawn postings -/
structure Rw where
  d : Nat
  n : Nat
  p : Nat
def Rw.ok (r : Rw) : Prop := r.d < 1000000 ∧ r.n < 1000000 ∧ r.p < 1000000
def rK (acc nm : List Nat) (r : Rw) : List Nat := keyT acc nm r.d r.n r.p
def rV (acc nm : List Nat) (r : Rw) : MV := .tup [.int r.d, .int r.n, .int r.p, .str (rK acc nm r)]
def row6 (acc nm : List Nat) (r : Rw) : MV := .tup [.str nm, .int r.n, .int r.d, .str acc, .int 5, .str [103, 111, 111, 100]]
def st17 : CS := .set 14 (.call 52 [.v 1, .k (.int 2)] [] false)
def st18 : CS := .set 15 (.lst [])
def s17 : CS := .set 17 (.tup [.ix (.v 14) (.k (.int 1)), .bin .Add (.k (.int 1)) (.call 48 [.v 1, .k (.int 100000)] [] false), .call 48 [.v 1, .k (.int 100001)] [] false, .bin .Add (.ix (.v 14) (.k (.int 0))) (.k (.str [46, 97])), .k (.int 5), .k (.str [103, 111, 111, 100])])
def s18 : CS := .set 18 (.call 48 [.v 1, .k (.int 12)] [] false)
def s19 : CS := .set 19 (.bin .Add (.bin .Add (.bin .Add (.bin .Add (.bin .Add (.bin .Add (.bin .Add (.bin .Add (.ix (.v 17) (.k (.int 3))) (.k (.str [47]))) (.call 53 [.ix (.v 17) (.k (.int 2))] [] false)) (.k (.str [47]))) (.ix (.v 17) (.k (.int 0)))) (.k (.str [47]))) (.call 53 [.ix (.v 17) (.k (.int 1))] [] false)) (.k (.str [47]))) (.call 53 [.v 18] [] false))
def s20 : CS := .ite (.tbo .Or [.tnot (.tv (.call 49 [.call 36 [.v 17, .v 18] [] false, .v 19] [] false)), .tnot (.tv (.call 49 [.call 37 [.v 19] [] false, .tup [.ix (.v 17) (.k (.int 3)), .ix (.v 17) (.k (.int 2)), .ix (.v 17) (.k (.int 0)), .ix (.v 17) (.k (.int 1)), .v 18]] [] false))]) [.rt (.k (.bl false))] []
def s21 : CS := .ex (.met (.v 15) [] none (some .append) none [.tup [.ix (.v 17) (.k (.int 2)), .ix (.v 17) (.k (.int 1)), .v 18, .v 19]])
def b19 : List CS := [s17, s18, s19, s20, s21]
def st19 : CS := .for_ (.one 16) 1 [.k (.int 4)] b19
theorem i6_0 (a b c d e f : MV) : atI [a, b, c, d, e, f] 0 = some a := rfl
theorem i6_1 (a b c d e f : MV) : atI [a, b, c, d, e, f] 1 = some b := rfl
theorem i6_2 (a b c d e f : MV) : atI [a, b, c, d, e, f] 2 = some c := rfl
theorem i6_3 (a b c d e f : MV) : atI [a, b, c, d, e, f] 3 = some d := rfl
section
variable {s q b14 b15 : Nat} {H : MH} {w0 w1 : List Nat} {x0 : MV} {b2 b3 b4 b5 : Nat} {x6 x7 x8 x9 x10 x11 x12 x13 x14 x15 x16 x17 x18 x19 x20 : Option MV}
theorem s17_ev (n : Nat) (hst : StOk H s q) (e14 : H[b14]? = some (.lst [.str w0, .str w1])) (n14 : b14 ≠ s) (l0 : w0.length ≤ 10) :
    ∃ (num day : Nat) (H' : MH), num < 1000000 ∧ day < 1000000 ∧ evS gs (cc (n + 1)) s17 [some x0, some (.ref s), some (.ref b2), some (.ref b3), some (.ref b4), some (.ref b5), x6, x7, x8, x9, x10, x11, x12, x13, some (.ref b14), x15, x16, x17, x18, x19, x20] H = .nx [some x0, some (.ref s), some (.ref b2), some (.ref b3), some (.ref b4), some (.ref b5), x6, x7, x8, x9, x10, x11, x12, x13, some (.ref b14), x15, x16, some (.tup [.str w1, .int num, .int day, .str (w0 ++ [46, 97]), .int 5, .str [103, 111, 111, 100]]), x18, x19, x20] H' ∧ Keep s H H' ∧ StOk H' s q := by
  obtain ⟨v1, o1, p1, p2, c1, t1⟩ := r48 n (lm := 100000) hst (by omega)
  obtain ⟨v1, rfl⟩ := Int.eq_ofNat_of_zero_le p1
  have k1 : Keep s H (H.set s o1) := Keep.refl.setS
  have m1 := k1.get n14 e14
  obtain ⟨v2, o2, p3, p4, c2, t2⟩ := r48 n (lm := 100001) t1 (by omega)
  obtain ⟨v2, rfl⟩ := Int.eq_ofNat_of_zero_le p3
  have k2 : Keep s H ((H.set s o1).set s o2) := k1.setS
  have m2 := k2.get n14 e14
  refine ⟨1 + v1, v2, (H.set s o1).set s o2, by omega, by omega, ?_, k2, t2⟩
  have l6 : (6 : Nat) ≤ lim := by unfold lim; omega
  have x1 : ∀ a b : MV, atI [a, b] 1 = some b := fun _ _ => rfl
  have x2 : ∀ a b : MV, atI [a, b] 0 = some a := fun _ _ => rfl
  have i1 : ixM H (.ref b14) (.int 1) = some (.str w1) := by rw [ix_l e14, x1]
  have i0 : ixM ((H.set s o1).set s o2) (.ref b14) (.int 0) = some (.str w0) := by rw [ix_l m2, x2]
  have bb : binM .Add ((H.set s o1).set s o2) (.str w0) (.str [46, 97]) = .ok (.str (w0 ++ [46, 97])) ((H.set s o1).set s o2) := b_lim (by simp; omega)
  have ez : ((1 + v1 : Nat) : Int) = 1 + (v1 : Int) := by omega
  rw [ez]
  generalize w0 ++ [46, 97] = A at *
  unfold s17
  simp only [evB, evS, evE, evT, evEs, evBo, evBoT, evIfC, evP, evI, bind_ok, bind_ex, bind_err, then_ok, then_ex, then_err, opt_some, opt_none, gd_f, gd_ok, t_non, t_bl, t_int, t_tup, b_ii, b_sub, c_eq_i, c_ne_i, c_eq_s, c_ne_s, c_eq_b, c_ne_b, c_lt_i, c_gt_i, c_le_i, c_ge_i, m_lt_i, m_le_i, m_le_s, c_is_n, c_isn_n, c_is_b, c_isn_b, is_n, is_i, is_s, is_b, is_t, is_r, c_in_c, c_nin_c, l_t, i_i, o_c, ix_t, ty_n, ty_b, ty_i, ty_s, ty_t, isinM, asgC, setAll, List.map_cons, List.map_nil, List.cons_append, List.nil_append, List.length_cons, List.length_nil, List.replicate_succ, List.replicate_zero, List.getElem?_cons_zero, List.getElem?_cons_succ, List.getElem?_nil, List.set_cons_zero, List.set_cons_succ, if_true, if_false, Bool.not_true, Bool.not_false, Bool.false_eq_true, Option.map_some, Option.map_none, List.any_cons, List.any_nil, Bool.or_false, Bool.false_or, Bool.or_true, Bool.true_or, Bool.and_true, Bool.true_and, Bool.false_and, Bool.and_false, beq_self_eq_true, String.reduceBEq, decide_true, decide_false, Nat.reduceAdd, Nat.reduceSub, Nat.zero_add, Int.natAbs_natCast, and_self, true_and, and_true, List.isEmpty_cons, List.isEmpty_nil, Option.isSome_some, Option.isSome_none, List.append_nil, i1, c1, c2, i0, bb, l6]
theorem s18_ev (n : Nat) (hst : StOk H s q) : ∃ (p : Nat) (H' : MH), p < 1000000 ∧ evS gs (cc (n + 1)) s18 [some x0, some (.ref s), some (.ref b2), some (.ref b3), some (.ref b4), some (.ref b5), x6, x7, x8, x9, x10, x11, x12, x13, x14, x15, x16, x17, x18, x19, x20] H = .nx [some x0, some (.ref s), some (.ref b2), some (.ref b3), some (.ref b4), some (.ref b5), x6, x7, x8, x9, x10, x11, x12, x13, x14, x15, x16, x17, some (.int p), x19, x20] H' ∧ Keep s H H' ∧ StOk H' s q := by
  obtain ⟨v1, o1, p1, p2, c1, t1⟩ := r48 n (lm := 12) hst (by omega)
  obtain ⟨v1, rfl⟩ := Int.eq_ofNat_of_zero_le p1
  refine ⟨v1, H.set s o1, by omega, ?_, Keep.refl.setS, t1⟩
  unfold s18
  simp only [evB, evS, evE, evT, evEs, evBo, evBoT, evIfC, evP, evI, bind_ok, bind_ex, bind_err, then_ok, then_ex, then_err, opt_some, opt_none, gd_f, gd_ok, t_non, t_bl, t_int, t_tup, b_ii, b_sub, c_eq_i, c_ne_i, c_eq_s, c_ne_s, c_eq_b, c_ne_b, c_lt_i, c_gt_i, c_le_i, c_ge_i, m_lt_i, m_le_i, m_le_s, c_is_n, c_isn_n, c_is_b, c_isn_b, is_n, is_i, is_s, is_b, is_t, is_r, c_in_c, c_nin_c, l_t, i_i, o_c, ix_t, ty_n, ty_b, ty_i, ty_s, ty_t, isinM, asgC, setAll, List.map_cons, List.map_nil, List.cons_append, List.nil_append, List.length_cons, List.length_nil, List.replicate_succ, List.replicate_zero, List.getElem?_cons_zero, List.getElem?_cons_succ, List.getElem?_nil, List.set_cons_zero, List.set_cons_succ, if_true, if_false, Bool.not_true, Bool.not_false, Bool.false_eq_true, Option.map_some, Option.map_none, List.any_cons, List.any_nil, Bool.or_false, Bool.false_or, Bool.or_true, Bool.true_or, Bool.and_true, Bool.true_and, Bool.false_and, Bool.and_false, beq_self_eq_true, String.reduceBEq, decide_true, decide_false, Nat.reduceAdd, Nat.reduceSub, Nat.zero_add, Int.natAbs_natCast, and_self, true_and, and_true, List.isEmpty_cons, List.isEmpty_nil, Option.isSome_some, Option.isSome_none, List.append_nil, c1]
theorem s19_ev (n : Nat) {acc nm : List Nat} {r : Rw} (ok : r.ok) (la : acc.length ≤ 20) (ln : nm.length ≤ 20) : evS gs (cc (n + 1)) s19 [some x0, some (.ref s), some (.ref b2), some (.ref b3), some (.ref b4), some (.ref b5), x6, x7, x8, x9, x10, x11, x12, x13, x14, x15, x16, some (row6 acc nm r), some (.int (r.p : Nat)), x19, x20] H = .nx [some x0, some (.ref s), some (.ref b2), some (.ref b3), some (.ref b4), some (.ref b5), x6, x7, x8, x9, x10, x11, x12, x13, x14, x15, x16, some (row6 acc nm r), some (.int (r.p : Nat)), some (.str (rK acc nm r)), x20] H := by
  obtain ⟨hd, hn, hp⟩ := ok
  have d1 := r53 n r.d H hd
  have d2 := r53 n r.n H hn
  have d3 := r53 n r.p H hp
  have l1 := six_len hd
  have l2 := six_len hn
  have l3 := six_len hp
  have kl := key_len hd hn hp la ln
  have B : ∀ {x y : List Nat}, x.length + y.length ≤ 1000 → binM .Add H (.str x) (.str y) = .ok (.str (x ++ y)) H := fun e => b_lim e
  have e1 := B (x := acc) (y := [47]) (by simp; omega)
  have e2 := B (x := acc ++ [47]) (y := six r.d) (by simp; omega)
  have e3 := B (x := acc ++ [47] ++ six r.d) (y := [47]) (by simp; omega)
  have e4 := B (x := acc ++ [47] ++ six r.d ++ [47]) (y := nm) (by simp; omega)
  have e5 := B (x := acc ++ [47] ++ six r.d ++ [47] ++ nm) (y := [47]) (by simp; omega)
  have e6 := B (x := acc ++ [47] ++ six r.d ++ [47] ++ nm ++ [47]) (y := six r.n) (by simp; omega)
  have e7 := B (x := acc ++ [47] ++ six r.d ++ [47] ++ nm ++ [47] ++ six r.n) (y := [47]) (by simp; omega)
  have e8 := B (x := acc ++ [47] ++ six r.d ++ [47] ++ nm ++ [47] ++ six r.n ++ [47]) (y := six r.p) (by simp; omega)
  unfold s19 row6 rK keyT
  generalize six r.d = S1 at *
  generalize six r.n = S2 at *
  generalize six r.p = S3 at *
  simp only [evS, evE, evEs, bind_ok, then_ok, gd_ok, gd_f, List.append_nil, List.set_cons_zero, List.set_cons_succ, List.getElem?_cons_zero, List.getElem?_cons_succ, ix_t, i6_0, i6_1, i6_2, i6_3, opt_some, d1, d2, d3, e1, e2, e3, e4, e5, e6, e7, e8]
theorem s20_ev (n : Nat) {acc nm : List Nat} {r : Rw} (ok : r.ok) (la : acc.length ≤ 20) (ln : nm.length ≤ 20) (fa : 47 ∉ acc) (fn : 47 ∉ nm) : ∃ g, evS gs (cc (n + 3)) s20 [some x0, some (.ref s), some (.ref b2), some (.ref b3), some (.ref b4), some (.ref b5), x6, x7, x8, x9, x10, x11, x12, x13, x14, x15, x16, some (row6 acc nm r), some (.int (r.p : Nat)), some (.str (rK acc nm r)), x20] H = .nx [some x0, some (.ref s), some (.ref b2), some (.ref b3), some (.ref b4), some (.ref b5), x6, x7, x8, x9, x10, x11, x12, x13, x14, x15, x16, some (row6 acc nm r), some (.int (r.p : Nat)), some (.str (rK acc nm r)), x20] (H ++ g) := by
  obtain ⟨hd, hn, hp⟩ := ok
  obtain ⟨g1, c1⟩ := r36 hd hn hp la ln n (.int 5) (.str [103, 111, 111, 100]) H
  obtain ⟨g2, c2⟩ := r37 hd hn hp la ln (n + 2) (H ++ g1) fa fn
  rw [show n + 2 + 1 = n + 3 from rfl] at c2
  have l5 : (5 : Nat) ≤ lim := by unfold lim; omega
  unfold rK row6
  have q1 : ∀ (w : List Nat) (h : MH), eqD 1 h (.str w) (.str w) := fun w h => .inr (.inr (.inr (.inl ⟨_, rfl, rfl⟩)))
  have qi : ∀ (k : Nat) (h : MH), eqD 1 h (.int k) (.int k) := fun k h => .inr (.inr (.inl ⟨_, rfl, rfl⟩))
  have q2 : eqD 2 (H ++ g1 ++ g2) (.tup [.str acc, .int r.d, .str nm, .int r.n, .int r.p]) (.tup [.str acc, .int r.d, .str nm, .int r.n, .int r.p]) := .inr (.inr (.inr (.inr (.inl ⟨_, _, rfl, rfl, by simp, .cons (q1 _ _) (.cons (qi _ _) (.cons (q1 _ _) (.cons (qi _ _) (.cons (qi _ _) .nil))))⟩))))
  generalize keyT acc nm r.d r.n r.p = K at *
  have f1 := same_Tk (k := n + 3) (e := .call 36 [.v 17, .v 18] [] false) (e' := .v 19) (sm := [some x0, some (.ref s), some (.ref b2), some (.ref b3), some (.ref b4), some (.ref b5), x6, x7, x8, x9, x10, x11, x12, x13, x14, x15, x16, some (.tup [.str nm, .int r.n, .int r.d, .str acc, .int 5, .str [103, 111, 111, 100]]), some (.int (r.p : Nat)), some (.str K), x20]) 1 (by omega) (h := H) (h1 := H ++ g1) (h2 := H ++ g1) (by simp only [evB, evS, evE, evT, evEs, evBo, evBoT, evIfC, evP, evI, bind_ok, bind_ex, bind_err, then_ok, then_ex, then_err, opt_some, opt_none, gd_f, gd_ok, t_non, t_bl, t_int, t_tup, b_ii, b_sub, c_eq_i, c_ne_i, c_eq_s, c_ne_s, c_eq_b, c_ne_b, c_lt_i, c_gt_i, c_le_i, c_ge_i, m_lt_i, m_le_i, m_le_s, c_is_n, c_isn_n, c_is_b, c_isn_b, is_n, is_i, is_s, is_b, is_t, is_r, c_in_c, c_nin_c, l_t, i_i, o_c, ix_t, ty_n, ty_b, ty_i, ty_s, ty_t, isinM, asgC, setAll, List.map_cons, List.map_nil, List.cons_append, List.nil_append, List.length_cons, List.length_nil, List.replicate_succ, List.replicate_zero, List.getElem?_cons_zero, List.getElem?_cons_succ, List.getElem?_nil, List.set_cons_zero, List.set_cons_succ, if_true, if_false, Bool.not_true, Bool.not_false, Bool.false_eq_true, Option.map_some, Option.map_none, List.any_cons, List.any_nil, Bool.or_false, Bool.false_or, Bool.or_true, Bool.true_or, Bool.and_true, Bool.true_and, Bool.false_and, Bool.and_false, beq_self_eq_true, String.reduceBEq, decide_true, decide_false, Nat.reduceAdd, Nat.reduceSub, Nat.zero_add, Int.natAbs_natCast, and_self, true_and, and_true, List.isEmpty_cons, List.isEmpty_nil, Option.isSome_some, Option.isSome_none, List.append_nil, c1]) (by simp only [evB, evS, evE, evT, evEs, evBo, evBoT, evIfC, evP, evI, bind_ok, bind_ex, bind_err, then_ok, then_ex, then_err, opt_some, opt_none, gd_f, gd_ok, t_non, t_bl, t_int, t_tup, b_ii, b_sub, c_eq_i, c_ne_i, c_eq_s, c_ne_s, c_eq_b, c_ne_b, c_lt_i, c_gt_i, c_le_i, c_ge_i, m_lt_i, m_le_i, m_le_s, c_is_n, c_isn_n, c_is_b, c_isn_b, is_n, is_i, is_s, is_b, is_t, is_r, c_in_c, c_nin_c, l_t, i_i, o_c, ix_t, ty_n, ty_b, ty_i, ty_s, ty_t, isinM, asgC, setAll, List.map_cons, List.map_nil, List.cons_append, List.nil_append, List.length_cons, List.length_nil, List.replicate_succ, List.replicate_zero, List.getElem?_cons_zero, List.getElem?_cons_succ, List.getElem?_nil, List.set_cons_zero, List.set_cons_succ, if_true, if_false, Bool.not_true, Bool.not_false, Bool.false_eq_true, Option.map_some, Option.map_none, List.any_cons, List.any_nil, Bool.or_false, Bool.false_or, Bool.or_true, Bool.true_or, Bool.and_true, Bool.true_and, Bool.false_and, Bool.and_false, beq_self_eq_true, String.reduceBEq, decide_true, decide_false, Nat.reduceAdd, Nat.reduceSub, Nat.zero_add, Int.natAbs_natCast, and_self, true_and, and_true, List.isEmpty_cons, List.isEmpty_nil, Option.isSome_some, Option.isSome_none, List.append_nil]) (q1 K _)
  have f2 := same_Tk (k := n + 3) (e := .call 37 [.v 19] [] false) (e' := .tup [.ix (.v 17) (.k (.int 3)), .ix (.v 17) (.k (.int 2)), .ix (.v 17) (.k (.int 0)), .ix (.v 17) (.k (.int 1)), .v 18]) (sm := [some x0, some (.ref s), some (.ref b2), some (.ref b3), some (.ref b4), some (.ref b5), x6, x7, x8, x9, x10, x11, x12, x13, x14, x15, x16, some (.tup [.str nm, .int r.n, .int r.d, .str acc, .int 5, .str [103, 111, 111, 100]]), some (.int (r.p : Nat)), some (.str K), x20]) 2 (by omega) (h := H ++ g1) (h1 := H ++ g1 ++ g2) (by simp only [evB, evS, evE, evT, evEs, evBo, evBoT, evIfC, evP, evI, bind_ok, bind_ex, bind_err, then_ok, then_ex, then_err, opt_some, opt_none, gd_f, gd_ok, t_non, t_bl, t_int, t_tup, b_ii, b_sub, c_eq_i, c_ne_i, c_eq_s, c_ne_s, c_eq_b, c_ne_b, c_lt_i, c_gt_i, c_le_i, c_ge_i, m_lt_i, m_le_i, m_le_s, c_is_n, c_isn_n, c_is_b, c_isn_b, is_n, is_i, is_s, is_b, is_t, is_r, c_in_c, c_nin_c, l_t, i_i, o_c, ix_t, ty_n, ty_b, ty_i, ty_s, ty_t, isinM, asgC, setAll, List.map_cons, List.map_nil, List.cons_append, List.nil_append, List.length_cons, List.length_nil, List.replicate_succ, List.replicate_zero, List.getElem?_cons_zero, List.getElem?_cons_succ, List.getElem?_nil, List.set_cons_zero, List.set_cons_succ, if_true, if_false, Bool.not_true, Bool.not_false, Bool.false_eq_true, Option.map_some, Option.map_none, List.any_cons, List.any_nil, Bool.or_false, Bool.false_or, Bool.or_true, Bool.true_or, Bool.and_true, Bool.true_and, Bool.false_and, Bool.and_false, beq_self_eq_true, String.reduceBEq, decide_true, decide_false, Nat.reduceAdd, Nat.reduceSub, Nat.zero_add, Int.natAbs_natCast, and_self, true_and, and_true, List.isEmpty_cons, List.isEmpty_nil, Option.isSome_some, Option.isSome_none, List.append_nil, c2]) (by simp only [evB, evS, evE, evT, evEs, evBo, evBoT, evIfC, evP, evI, bind_ok, bind_ex, bind_err, then_ok, then_ex, then_err, opt_some, opt_none, gd_f, gd_ok, t_non, t_bl, t_int, t_tup, b_ii, b_sub, c_eq_i, c_ne_i, c_eq_s, c_ne_s, c_eq_b, c_ne_b, c_lt_i, c_gt_i, c_le_i, c_ge_i, m_lt_i, m_le_i, m_le_s, c_is_n, c_isn_n, c_is_b, c_isn_b, is_n, is_i, is_s, is_b, is_t, is_r, c_in_c, c_nin_c, l_t, i_i, o_c, ix_t, ty_n, ty_b, ty_i, ty_s, ty_t, isinM, asgC, setAll, List.map_cons, List.map_nil, List.cons_append, List.nil_append, List.length_cons, List.length_nil, List.replicate_succ, List.replicate_zero, List.getElem?_cons_zero, List.getElem?_cons_succ, List.getElem?_nil, List.set_cons_zero, List.set_cons_succ, if_true, if_false, Bool.not_true, Bool.not_false, Bool.false_eq_true, Option.map_some, Option.map_none, List.any_cons, List.any_nil, Bool.or_false, Bool.false_or, Bool.or_true, Bool.true_or, Bool.and_true, Bool.true_and, Bool.false_and, Bool.and_false, beq_self_eq_true, String.reduceBEq, decide_true, decide_false, Nat.reduceAdd, Nat.reduceSub, Nat.zero_add, Int.natAbs_natCast, and_self, true_and, and_true, List.isEmpty_cons, List.isEmpty_nil, Option.isSome_some, Option.isSome_none, List.append_nil, i6_0, i6_1, i6_2, i6_3, l5]) q2
  unfold s20
  refine ⟨g1 ++ g2, ?_⟩
  rw [← List.append_assoc]
  exact ite_f (or_f f1 (or_1 f2) (by simp))
theorem s21_ev (C : CallS) {acc nm : List Nat} {r : Rw} {xs : List MV} (e15 : H[b15]? = some (.lst xs)) (hl : xs.length < 1000) : evS gs C s21 [some x0, some (.ref s), some (.ref b2), some (.ref b3), some (.ref b4), some (.ref b5), x6, x7, x8, x9, x10, x11, x12, x13, x14, some (.ref b15), x16, some (row6 acc nm r), some (.int (r.p : Nat)), some (.str (rK acc nm r)), x20] H = .nx [some x0, some (.ref s), some (.ref b2), some (.ref b3), some (.ref b4), some (.ref b5), x6, x7, x8, x9, x10, x11, x12, x13, x14, some (.ref b15), x16, some (row6 acc nm r), some (.int (r.p : Nat)), some (.str (rK acc nm r)), x20] (H.set b15 (.lst (xs ++ [rV acc nm r]))) := by
  have l4 : (4 : Nat) ≤ lim := by unfold lim; omega
  have ap := ap_l (h := H) (a := b15) (xs := xs) (y := rV acc nm r) (by unfold lim; omega)
  unfold rV at ap
  unfold s21 row6 rV
  generalize rK acc nm r = K at *
  simp only [evB, evS, evE, evT, evEs, evBo, evBoT, evIfC, evP, evI, bind_ok, bind_ex, bind_err, then_ok, then_ex, then_err, opt_some, opt_none, gd_f, gd_ok, t_non, t_bl, t_int, t_tup, b_ii, b_sub, c_eq_i, c_ne_i, c_eq_s, c_ne_s, c_eq_b, c_ne_b, c_lt_i, c_gt_i, c_le_i, c_ge_i, m_lt_i, m_le_i, m_le_s, c_is_n, c_isn_n, c_is_b, c_isn_b, is_n, is_i, is_s, is_b, is_t, is_r, c_in_c, c_nin_c, l_t, i_i, o_c, ix_t, ty_n, ty_b, ty_i, ty_s, ty_t, isinM, asgC, setAll, List.map_cons, List.map_nil, List.cons_append, List.nil_append, List.length_cons, List.length_nil, List.replicate_succ, List.replicate_zero, List.getElem?_cons_zero, List.getElem?_cons_succ, List.getElem?_nil, List.set_cons_zero, List.set_cons_succ, if_true, if_false, Bool.not_true, Bool.not_false, Bool.false_eq_true, Option.map_some, Option.map_none, List.any_cons, List.any_nil, Bool.or_false, Bool.false_or, Bool.or_true, Bool.true_or, Bool.and_true, Bool.true_and, Bool.false_and, Bool.and_false, beq_self_eq_true, String.reduceBEq, decide_true, decide_false, Nat.reduceAdd, Nat.reduceSub, Nat.zero_add, Int.natAbs_natCast, and_self, true_and, and_true, List.isEmpty_cons, List.isEmpty_nil, Option.isSome_some, Option.isSome_none, List.append_nil, e15, i6_1, i6_2, l4, ap]
theorem e_19b (n : Nat) {xs : List MV} (hst : StOk H s q) (e14 : H[b14]? = some (.lst [.str w0, .str w1])) (n14 : b14 ≠ s) (e15 : H[b15]? = some (.lst xs)) (n15 : b15 ≠ s) (hl : xs.length < 1000) (h0 : Low w0) (h1 : Low w1) :
    ∃ (r : Rw) (z17 z18 z19 : Option MV) (H' : MH), r.ok ∧ evB gs (cc (n + 3)) b19 [some x0, some (.ref s), some (.ref b2), some (.ref b3), some (.ref b4), some (.ref b5), x6, x7, x8, x9, x10, x11, x12, x13, some (.ref b14), some (.ref b15), x16, x17, x18, x19, x20] H = .nx [some x0, some (.ref s), some (.ref b2), some (.ref b3), some (.ref b4), some (.ref b5), x6, x7, x8, x9, x10, x11, x12, x13, some (.ref b14), some (.ref b15), x16, z17, z18, z19, x20] (H'.set b15 (.lst (xs ++ [rV (w0 ++ [46, 97]) w1 r]))) ∧ H'[b15]? = some (.lst xs) ∧ Keep s H H' ∧ StOk H' s q := by
  obtain ⟨_, l0, c0⟩ := h0
  obtain ⟨_, l1, c1⟩ := h1
  obtain ⟨num, day, H1, u1, u2, f1, k1, t1⟩ := s17_ev (x0 := x0) (b2 := b2) (b3 := b3) (b4 := b4) (b5 := b5) (x6 := x6) (x7 := x7) (x8 := x8) (x9 := x9) (x10 := x10) (x11 := x11) (x12 := x12) (x13 := x13) (x15 := some (.ref b15)) (x16 := x16) (x17 := x17) (x18 := x18) (x19 := x19) (x20 := x20) (n + 2) hst e14 n14 l0
  obtain ⟨p, H2, u3, f2, k2, t2⟩ := s18_ev (x0 := x0) (b2 := b2) (b3 := b3) (b4 := b4) (b5 := b5) (x6 := x6) (x7 := x7) (x8 := x8) (x9 := x9) (x10 := x10) (x11 := x11) (x12 := x12) (x13 := x13) (x14 := some (.ref b14)) (x15 := some (.ref b15)) (x16 := x16) (x17 := some (.tup [.str w1, .int num, .int day, .str (w0 ++ [46, 97]), .int 5, .str [103, 111, 111, 100]])) (x18 := x18) (x19 := x19) (x20 := x20) (n + 2) t1
  have ok : (⟨day, num, p⟩ : Rw).ok := ⟨u2, u1, u3⟩
  have la : (w0 ++ [46, 97]).length ≤ 20 := by simp; omega
  have f3 := s19_ev (x0 := x0) (s := s) (b2 := b2) (b3 := b3) (b4 := b4) (b5 := b5) (x6 := x6) (x7 := x7) (x8 := x8) (x9 := x9) (x10 := x10) (x11 := x11) (x12 := x12) (x13 := x13) (x14 := some (.ref b14)) (x15 := some (.ref b15)) (x16 := x16) (x19 := x19) (x20 := x20) (H := H2) (n + 2) (acc := w0 ++ [46, 97]) (nm := w1) ok la (by omega)
  obtain ⟨g, f4⟩ := s20_ev (x0 := x0) (s := s) (b2 := b2) (b3 := b3) (b4 := b4) (b5 := b5) (x6 := x6) (x7 := x7) (x8 := x8) (x9 := x9) (x10 := x10) (x11 := x11) (x12 := x12) (x13 := x13) (x14 := some (.ref b14)) (x15 := some (.ref b15)) (x16 := x16) (x20 := x20) (H := H2) n (acc := w0 ++ [46, 97]) (nm := w1) ok la (by omega) (fun hc => by
      rcases List.mem_append.mp hc with hc | hc
      · have := c0 _ hc
        omega
      · simp at hc) (fun hc => by
      have := c1 _ hc
      omega)
  have k3 : Keep s H (H2 ++ g) := (k1.trans k2).app
  have m15 := k3.get n15 e15
  have f5 := s21_ev (x0 := x0) (s := s) (b2 := b2) (b3 := b3) (b4 := b4) (b5 := b5) (x6 := x6) (x7 := x7) (x8 := x8) (x9 := x9) (x10 := x10) (x11 := x11) (x12 := x12) (x13 := x13) (x14 := some (.ref b14)) (x16 := x16) (x20 := x20) (cc (n + 3)) (acc := w0 ++ [46, 97]) (nm := w1) (r := ⟨day, num, p⟩) m15 hl
  refine ⟨⟨day, num, p⟩, some (row6 (w0 ++ [46, 97]) w1 ⟨day, num, p⟩), some (.int (p : Nat)), some (.str (rK (w0 ++ [46, 97]) w1 ⟨day, num, p⟩)), H2 ++ g, ok, ?_, m15, k3, t2.app⟩
  unfold b19
  unfold row6 at f3 f4 f5
  rw [show n + 2 + 1 = n + 3 from rfl] at f1 f2 f3
  generalize s17 = N1 at *
  generalize s18 = N2 at *
  generalize s19 = N3 at *
  generalize s20 = N4 at *
  generalize s21 = N5 at *
  simp only [evB]
  rw [f1]
  dsimp only
  rw [f2]
  dsimp only
  rw [f3]
  dsimp only
  rw [f4]
  dsimp only
  rw [f5]
  rfl
theorem e_19 (n : Nat) (hst : StOk H s q) (e14 : H[b14]? = some (.lst [.str w0, .str w1])) (n14 : b14 ≠ s) (h0 : Low w0) (h1 : Low w1) :
    ∃ (rows : List Rw) (z16 z17 z18 z19 : Option MV) (H' : MH), rows.length = 4 ∧ (∀ r ∈ rows, r.ok) ∧ evB gs (cc (n + 3)) [st18, st19] [some x0, some (.ref s), some (.ref b2), some (.ref b3), some (.ref b4), some (.ref b5), x6, x7, x8, x9, x10, x11, x12, x13, some (.ref b14), x15, x16, x17, x18, x19, x20] H = .nx [some x0, some (.ref s), some (.ref b2), some (.ref b3), some (.ref b4), some (.ref b5), x6, x7, x8, x9, x10, x11, x12, x13, some (.ref b14), some (.ref H.length), z16, z17, z18, z19, x20] H' ∧ H'[H.length]? = some (.lst (rows.map (rV (w0 ++ [46, 97]) w1))) ∧ Keep s H H' ∧ StOk H' s q := by
  have hs := hst.lt
  have l0 : (0 : Nat) ≤ lim := Nat.zero_le _
  obtain ⟨sm', H', e, z16, z17, z18, z19, rows, i1, i2, i3, i4, i5, i6⟩ := forC_run (tg := .one 16) (it := .seq (rangeL 0 4)) (b := fun sm h => evB gs (cc (n + 3)) b19 sm h) 4
    (fun k sm h => ∃ (z16 z17 z18 z19 : Option MV) (rows : List Rw), sm = [some x0, some (.ref s), some (.ref b2), some (.ref b3), some (.ref b4), some (.ref b5), x6, x7, x8, x9, x10, x11, x12, x13, some (.ref b14), some (.ref H.length), z16, z17, z18, z19, x20] ∧ rows.length = k ∧ (∀ r ∈ rows, r.ok) ∧ h[H.length]? = some (.lst (rows.map (rV (w0 ++ [46, 97]) w1))) ∧ Keep s H h ∧ StOk h s q) (m := 5) (sm := [some x0, some (.ref s), some (.ref b2), some (.ref b3), some (.ref b4), some (.ref b5), x6, x7, x8, x9, x10, x11, x12, x13, some (.ref b14), some (.ref H.length), x16, x17, x18, x19, x20]) (h := H ++ [.lst []]) (by omega)
    ⟨x16, x17, x18, x19, [], rfl, rfl, (fun r hr => by cases hr), get_new, Keep.refl.app, hst.app⟩ (by
      rintro k sm h hk ⟨z16, z17, z18, z19, rows, rfl, j1, j2, j3, j4, j5⟩
      obtain ⟨r, y17, y18, y19, h', f1, f2, f3, f4, f5⟩ := e_19b (x0 := x0) (b2 := b2) (b3 := b3) (b4 := b4) (b5 := b5) (x6 := x6) (x7 := x7) (x8 := x8) (x9 := x9) (x10 := x10) (x11 := x11) (x12 := x12) (x13 := x13) (x16 := some (.int k)) (x17 := z17) (x18 := z18) (x19 := z19) (x20 := x20) n j5 (j4.get n14 e14) n14 j3 (by omega) (by rw [List.length_map]; omega) h0 h1
      refine ⟨.int k, [some x0, some (.ref s), some (.ref b2), some (.ref b3), some (.ref b4), some (.ref b5), x6, x7, x8, x9, x10, x11, x12, x13, some (.ref b14), some (.ref H.length), some (.int k), z17, z18, z19, x20], by rw [at_rng, if_pos hk], rfl, _, _, .inl f2, some (.int k), y17, y18, y19, rows ++ [r], rfl, by simp [j1], ?_, ?_, (j4.trans f4).put (Nat.le_refl _), f5.put (by omega) (by omega)⟩
      · intro r' hr
        rcases List.mem_append.mp hr with hr | hr
        · exact j2 r' hr
        · simp at hr
          rw [hr]
          exact f1
      · rw [get_set f3]
        simp) (by
      rintro sm h _
      rw [at_rng, if_neg (by omega)])
  refine ⟨rows, z16, z17, z18, z19, H', i2, i3, ?_, i4, i5, i6⟩
  have ev : evS gs (cc (n + 3)) st19 [some x0, some (.ref s), some (.ref b2), some (.ref b3), some (.ref b4), some (.ref b5), x6, x7, x8, x9, x10, x11, x12, x13, some (.ref b14), some (.ref H.length), x16, x17, x18, x19, x20] (H ++ [.lst []]) = .nx sm' H' := by
    unfold st19
    rw [evS_for (evI1 (h1 := H ++ [.lst []]) (K := ((4 : Nat) : Int)) (it := .seq (rangeL 0 4)) (by simp only [evB, evS, evE, evT, evEs, evBo, evBoT, evIfC, evP, bind_ok, bind_ex, bind_err, then_ok, then_ex, then_err, opt_some, opt_none, gd_f, gd_ok, t_non, t_bl, t_int, t_tup, b_ii, b_sub, c_eq_i, c_ne_i, c_eq_s, c_ne_s, c_eq_b, c_ne_b, c_lt_i, c_gt_i, c_le_i, c_ge_i, m_lt_i, m_le_i, m_le_s, c_is_n, c_isn_n, c_is_b, c_isn_b, is_n, is_i, is_s, is_b, is_t, is_r, c_in_c, c_nin_c, l_t, i_i, o_c, ix_t, ty_n, ty_b, ty_i, ty_s, ty_t, isinM, asgC, setAll, List.map_cons, List.map_nil, List.cons_append, List.nil_append, List.length_cons, List.length_nil, List.replicate_succ, List.replicate_zero, List.getElem?_cons_zero, List.getElem?_cons_succ, List.getElem?_nil, List.set_cons_zero, List.set_cons_succ, if_true, if_false, Bool.not_true, Bool.not_false, Bool.false_eq_true, Option.map_some, Option.map_none, List.any_cons, List.any_nil, Bool.or_false, Bool.false_or, Bool.or_true, Bool.true_or, Bool.and_true, Bool.true_and, Bool.false_and, Bool.and_false, beq_self_eq_true, String.reduceBEq, decide_true, decide_false, Nat.reduceAdd, Nat.reduceSub, Nat.zero_add, Int.natAbs_natCast, and_self, true_and, and_true, List.isEmpty_cons, List.isEmpty_nil, Option.isSome_some, Option.isSome_none, List.append_nil]; rfl) (rng0 (by omega))), fuel_rng]
    exact e
  rw [i1] at ev
  unfold st18
  generalize st19 = N at ev ⊢
  simp only [evB, evS, evE, evT, evEs, evBo, evBoT, evIfC, evP, evI, bind_ok, bind_ex, bind_err, then_ok, then_ex, then_err, opt_some, opt_none, gd_f, gd_ok, t_non, t_bl, t_int, t_tup, b_ii, b_sub, c_eq_i, c_ne_i, c_eq_s, c_ne_s, c_eq_b, c_ne_b, c_lt_i, c_gt_i, c_le_i, c_ge_i, m_lt_i, m_le_i, m_le_s, c_is_n, c_isn_n, c_is_b, c_isn_b, is_n, is_i, is_s, is_b, is_t, is_r, c_in_c, c_nin_c, l_t, i_i, o_c, ix_t, ty_n, ty_b, ty_i, ty_s, ty_t, isinM, asgC, setAll, List.map_cons, List.map_nil, List.cons_append, List.nil_append, List.length_cons, List.length_nil, List.replicate_succ, List.replicate_zero, List.getElem?_cons_zero, List.getElem?_cons_succ, List.getElem?_nil, List.set_cons_zero, List.set_cons_succ, if_true, if_false, Bool.not_true, Bool.not_false, Bool.false_eq_true, Option.map_some, Option.map_none, List.any_cons, List.any_nil, Bool.or_false, Bool.false_or, Bool.or_true, Bool.true_or, Bool.and_true, Bool.true_and, Bool.false_and, Bool.and_false, beq_self_eq_true, String.reduceBEq, decide_true, decide_false, Nat.reduceAdd, Nat.reduceSub, Nat.zero_add, Int.natAbs_natCast, and_self, true_and, and_true, List.isEmpty_cons, List.isEmpty_nil, Option.isSome_some, Option.isSome_none, List.append_nil, l0, lay, ev]
end
end Pg
end

section
set_option linter.all false
set_option maxRecDepth 100000
set_option maxHeartbeats 1000000
namespace Pg
open PySem PySem.Spec L2 Mn
open TL (numL)
open PySem.W (dataLt keyToks keyToksAll)
open PyProof.Rows (itemOrd)
/-! ### keys in order -/
theorem lt_cons_i (a b : Int) (xs ys : List PyData) : dataLt (.tuple (.int a :: xs)) (.tuple (.int b :: ys)) = (decide (a < b) || (!decide (b < a) && dataLt (.tuple xs) (.tuple ys))) := by
  rw [PySem.W.dataLt_tuple, PySem.W.dataLt_tuple]
  simp only [keyToksAll, keyToks, List.cons_append, List.nil_append]
  rw [PyProof.Rows.lex_self, PyProof.Rows.lex_cons]
  rfl
def rD (acc nm : List Nat) (r : Rw) : PyData := .tuple [.int r.d, .int r.n, .int r.p, .str ⟨(rK acc nm r).toArray⟩]
theorem app_lt2 : ∀ {a b x y : List Nat}, a.length = b.length → a < b → a ++ x < b ++ y
  | [], [], _, _, _, h => absurd h (List.lt_irrefl _)
  | c :: a, d :: b, x, y, hl, h => by
    rcases List.cons_lt_cons_iff.mp h with h2 | ⟨e2, h2⟩
    · exact List.cons_lt_cons_iff.mpr (.inl h2)
    · exact List.cons_lt_cons_iff.mpr (.inr ⟨e2, app_lt2 (by simpa using hl) h2⟩)
  | [], _ :: _, _, _, hl, _ => by simp at hl
  | _ :: _, [], _, _, hl, _ => by simp at hl
theorem key_mono {acc nm : List Nat} {r r' : Rw} (o : r.ok) (o' : r'.ok) (h : dataLt (rD acc nm r') (rD acc nm r) = false) : rK acc nm r = rK acc nm r' ∨ rK acc nm r < rK acc nm r' := by
  obtain ⟨a1, a2, a3⟩ := o
  obtain ⟨b1, b2, b3⟩ := o'
  have sl : ∀ {u v : Nat}, u < 1000000 → v < 1000000 → (six u).length = (six v).length := fun hu hv => by rw [six_len hu, six_len hv]
  unfold rD at h
  rw [lt_cons_i, lt_cons_i, lt_cons_i] at h
  simp only [Bool.or_eq_false_iff, Bool.and_eq_false_iff, decide_eq_false_iff_not, Bool.not_eq_false', decide_eq_true_eq] at h
  obtain ⟨h1, h2⟩ := h
  have K : ∀ x : Rw, rK acc nm x = (acc ++ [47]) ++ (six x.d ++ (([47] ++ nm ++ [47]) ++ (six x.n ++ ([47] ++ six x.p)))) := fun x => by
    unfold rK keyT
    simp only [List.append_assoc]
  rw [K, K]
  by_cases e1 : r.d = r'.d
  · rcases h2 with h2 | ⟨h2, h3⟩
    · omega
    · by_cases e2 : r.n = r'.n
      · rcases h3 with h3 | ⟨h3, h4⟩
        · omega
        · by_cases e3 : r.p = r'.p
          · left
            rw [e1, e2, e3]
          · right
            rw [e1, e2]
            have := six_lt a3 b3 (by omega)
            exact app_lt _ (app_lt _ (app_lt _ (app_lt _ (app_lt _ this))))
      · right
        rw [e1]
        have := six_lt a2 b2 (by omega)
        exact app_lt _ (app_lt _ (app_lt _ (app_lt2 (sl a2 b2) this)))
  · right
    have := six_lt a1 b1 (by omega)
    exact app_lt _ (app_lt2 (sl a1 b1) this)
theorem dl_trans (a b c : MV × PyData) (h1 : (!dataLt b.2 a.2) = true) (h2 : (!dataLt c.2 b.2) = true) : (!dataLt c.2 a.2) = true := by
  simp only [Bool.not_eq_true', Bool.not_eq_eq_eq_not, Bool.not_true] at h1 h2 ⊢
  cases h : dataLt c.2 a.2 with
  | false => rfl
  | true =>
    rcases PyProof.Rows.lex_negTrans (O := PyProof.Rows.itemOrd) _ (PySem.W.keyToks b.2) _ h with h3 | h3
    · rw [show dataLt c.2 b.2 = true from h3] at h2
      cases h2
    · rw [show dataLt b.2 a.2 = true from h3] at h1
      cases h1
theorem dl_total (a b : MV × PyData) : (!dataLt b.2 a.2 || !dataLt a.2 b.2) = true := by
  cases h : dataLt b.2 a.2 with
  | false => rfl
  | true =>
    cases h2 : dataLt a.2 b.2 with
    | false => rfl
    | true =>
      have := PyProof.Rows.lex_trans (O := PyProof.Rows.itemOrd) _ _ _ h h2
      rw [PyProof.Rows.lex_irrefl] at this
      cases this
/-- sorted texts, twice or more too -/
abbrev LeS (l : List (List Nat)) : Prop := l.Pairwise fun a b => a = b ∨ a < b
theorem insS_le {y : List Nat} : ∀ {l : List (List Nat)}, LeS l → LeS (insS y l)
  | [], _ => by simp [insS, LeS]
  | z :: r, h => by
    have h' := List.pairwise_cons.mp h
    unfold insS
    split
    · rename_i hle
      refine List.pairwise_cons.mpr ⟨?_, h⟩
      intro a ha
      have hyz : y = z ∨ y < z := by
        rcases List.le_iff_lt_or_eq.mp hle with h | h
        · exact .inr h
        · exact .inl h
      rcases List.mem_cons.mp ha with e2 | ha2
      · rw [e2]
        exact hyz
      · rcases hyz with e3 | hyz
        · rw [e3]
          exact h'.1 a ha2
        · rcases h'.1 a ha2 with e4 | h2
          · rw [← e4]
            exact .inr hyz
          · exact .inr (List.lt_trans hyz h2)
    · rename_i hle
      refine List.pairwise_cons.mpr ⟨?_, insS_le h'.2⟩
      intro a ha
      rcases insS_mem.mp ha with e2 | ha2
      · rw [e2]
        exact .inr (List.not_le.mp hle)
      · exact h'.1 a ha2
theorem sortS_le : ∀ (l : List (List Nat)), LeS (sortS l)
  | [] => List.Pairwise.nil
  | y :: r => insS_le (sortS_le r)
theorem insS_perm (y : List Nat) : ∀ (l : List (List Nat)), (insS y l).Perm (y :: l)
  | [] => List.Perm.refl _
  | z :: r => by
    unfold insS
    split
    · exact List.Perm.refl _
    · exact (List.Perm.cons z (insS_perm y r)).trans (List.Perm.swap y z r)
theorem sortS_perm : ∀ (l : List (List Nat)), (sortS l).Perm l
  | [] => List.Perm.refl _
  | y :: r => (insS_perm y (sortS r)).trans (List.Perm.cons y (sortS_perm r))
theorem le_ext : ∀ {a b : List (List Nat)}, LeS a → LeS b → a.Perm b → a = b
  | [], b, _, _, p => (List.Perm.nil_eq p)
  | x :: a, [], _, _, p => absurd p.symm.nil_eq (by simp)
  | x :: a, y :: b, ha, hb, p => by
    have ha' := List.pairwise_cons.mp ha
    have hb' := List.pairwise_cons.mp hb
    have exy : x = y := by
      rcases List.mem_cons.mp (p.mem_iff.mp (List.mem_cons_self (a := x) (l := a))) with e | hx
      · exact e
      · rcases List.mem_cons.mp (p.mem_iff.mpr (List.mem_cons_self (a := y) (l := b))) with e | hy
        · exact e.symm
        · rcases ha'.1 y hy with e | h1
          · exact e
          · rcases hb'.1 x hx with e | h2
            · exact e.symm
            · exact absurd (List.lt_trans h1 h2) (List.lt_irrefl x)
    subst exy
    rw [le_ext ha'.2 hb'.2 (List.Perm.cons_inv p)]
/-- the key in a sorted row -/
def kOf (x : MV) : MV := match x with
  | .tup [_, _, _, k] => k
  | _ => .non
theorem toD_row (h : MH) {acc nm : List Nat} (r : Rw) (hk : okT (rK acc nm r)) : toD h 30 (rV acc nm r) = some (rD acc nm r) := by
  have h1 : ((rK acc nm r).all fun c => decide (c < 1114112)) = true := by
    rw [List.all_eq_true]
    intro c hc
    simpa using hk c hc
  unfold rV rD
  generalize rK acc nm r = K at *
  show (mapO (toD h 29) [.int r.d, .int r.n, .int r.p, .str K]).map PyData.tuple = _
  have a1 : ∀ i : Int, toD h 29 (.int i) = some (.int i) := fun _ => rfl
  have a2 : toD h 29 (.str K) = some (.str ⟨K.toArray⟩) := by
    unfold toD
    simp only [h1, if_true]
  simp only [mapO, a1, a2, Option.map_some]
theorem toD_rows (h : MH) {acc nm : List Nat} : ∀ {rows : List Rw}, (∀ r ∈ rows, okT (rK acc nm r)) → mapO (toD h 30) (rows.map (rV acc nm)) = some (rows.map (rD acc nm))
  | [], _ => rfl
  | r :: rows, hk => by
    rw [List.map_cons]
    unfold mapO
    rw [toD_row h r (hk r List.mem_cons_self)]
    dsimp only
    rw [toD_rows h fun r' hr => hk r' (List.mem_cons_of_mem _ hr)]
    rfl
theorem zip_two {α β γ : Type} (f : α → β) (g : α → γ) : ∀ R : List α, (R.map f).zip (R.map g) = R.map fun r => (f r, g r)
  | [] => rfl
  | r :: R => by
    rw [List.map_cons, List.map_cons, List.zip_cons_cons, zip_two f g R]
    rfl
theorem sorted_rows {h : MH} {a : Nat} {acc nm : List Nat} {r0 : Rw} {rows : List Rw} (e : h[a]? = some (.lst ((r0 :: rows).map (rV acc nm)))) (ok : ∀ r ∈ r0 :: rows, r.ok) (hk : ∀ r ∈ r0 :: rows, okT (rK acc nm r)) (hl : rows.length < 60) :
    ∃ rs : List Rw, bltM .sorted h [.ref a] = .ok (.ref h.length) (h ++ [.lst (rs.map (rV acc nm))]) ∧ rs.length = rows.length + 1 ∧ rs.map (rK acc nm) = sortS ((r0 :: rows).map (rK acc nm)) := by
  have i1 : intsM ((r0 :: rows).map (rV acc nm)) = none := rfl
  have i2 : strsM ((r0 :: rows).map (rV acc nm)) = none := rfl
  have i3 := toD_rows h hk
  have i4 : (((r0 :: rows).map (rD acc nm)).all isT1) = true := by
    rw [List.all_eq_true]
    intro d hd
    obtain ⟨r, _, rfl⟩ := List.mem_map.mp hd
    rfl
  have i5 : (((r0 :: rows).map (rD acc nm)).all fun d => ((r0 :: rows).map (rD acc nm)).all fun e => PySem.W.alike d e) = true := by
    rw [List.all_eq_true]
    intro d hd
    rw [List.all_eq_true]
    intro e he
    obtain ⟨r, _, rfl⟩ := List.mem_map.mp hd
    obtain ⟨r', _, rfl⟩ := List.mem_map.mp he
    unfold rD
    simp [PySem.W.alike, PySem.W.alikeAll]
  have i6 : ((r0 :: rows).map (rV acc nm)).length ≤ lim := by simp; unfold lim; omega
  generalize hR : r0 :: rows = R at *
  have zz : (R.map (rV acc nm)).zip (R.map (rD acc nm)) = R.map fun r => (rV acc nm r, rD acc nm r) := zip_two _ _ R
  let le : Rw → Rw → Bool := fun r r' => !dataLt (rD acc nm r') (rD acc nm r)
  have srt : (R.mergeSort le).Pairwise fun r r' => le r r' := List.pairwise_mergeSort (le := le) (fun a b c => dl_trans (rV acc nm a, rD acc nm a) (rV acc nm b, rD acc nm b) (rV acc nm c, rD acc nm c)) (fun a b => dl_total (rV acc nm a, rD acc nm a) (rV acc nm b, rD acc nm b)) R
  have prm := List.mergeSort_perm R le
  have mp : (R.mergeSort le).map (fun r => (rV acc nm r, rD acc nm r)) = (R.map fun r => (rV acc nm r, rD acc nm r)).mergeSort fun p q => !dataLt q.2 p.2 := List.map_mergeSort fun a _ b _ => rfl
  refine ⟨R.mergeSort le, ?_, ?_, ?_⟩
  · simp only [bltM, e]
    rw [i1]
    dsimp only
    rw [i2]
    dsimp only
    unfold sortD
    rw [i3]
    dsimp only
    rw [if_pos ⟨i4, i5, i6⟩, zz]
    have mp2 : ((R.map fun r => (rV acc nm r, rD acc nm r)).mergeSort fun p q => !PySem.W.dataLt q.2 p.2).map (·.1) = (R.mergeSort le).map (rV acc nm) := by
      rw [← mp, List.map_map]
      rfl
    rw [mp2]
    rfl
  · rw [prm.length_eq, ← hR]
    rfl
  · refine le_ext ?_ (sortS_le _) ((prm.map _).trans (sortS_perm _).symm)
    show List.Pairwise _ _
    rw [List.pairwise_map]
    refine srt.imp_of_mem ?_
    intro a b ha hb hab
    have hab' : dataLt (rD acc nm b) (rD acc nm a) = false := by simpa [le] using hab
    exact key_mono (ok a (prm.mem_iff.mp ha)) (ok b (prm.mem_iff.mp hb)) hab'
/-! ### the last statements -/
def lcA : CE := .lc (.v 19) (.many [20, 10, 18, 19]) 0 [.blt .sorted [.v 15]] [] [20, 10, 18, 19]
def lcB : CE := .lc (.ix (.v 17) (.k (.int 3))) (.one 17) 0 [.v 15] [] [17]
def st20 : CS := .ite (.tcmp .NotEq lcA (.blt .sorted [lcB])) [.rt (.k (.bl false))] []
def lcC' : CE := .lc (.call 35 [.v 10] [] false) (.one 10) 0 [.v 2] [] [10]
def lcD : CE := .lc (.call 53 [.v 10] [] false) (.one 10) 0 [.v 2] [] [10]
def st21 : CS := .rt (.call 49 [lcC', lcD] [] false)
theorem c56_eq : c56 = [st1, st2, st3, st4, st5, st6, st7, st8, st9, st10, st11, st12, st13, st14, st15, st16, st17, st18, st19, st20, st21] := rfl
section
variable {s q b2 b3 b4 b5 b15 : Nat} {H : MH} {L : List Nat} {x0 : MV} {x6 x7 x8 x9 x10 x11 x12 x13 x14 x15 x16 x17 x18 x19 x20 : Option MV}
theorem e_20 (C : CallS) {acc nm : List Nat} {r0 : Rw} {rows : List Rw} (e15 : H[b15]? = some (.lst ((r0 :: rows).map (rV acc nm)))) (ok : ∀ r ∈ r0 :: rows, r.ok) (hk : ∀ r ∈ r0 :: rows, okT (rK acc nm r)) (hl : rows.length < 60) :
    ∃ g, evS gs C st20 [some x0, some (.ref s), some (.ref b2), some (.ref b3), some (.ref b4), some (.ref b5), x6, x7, x8, x9, x10, x11, x12, x13, x14, some (.ref b15), x16, x17, x18, x19, x20] H = .nx [some x0, some (.ref s), some (.ref b2), some (.ref b3), some (.ref b4), some (.ref b5), x6, x7, x8, x9, x10, x11, x12, x13, x14, some (.ref b15), x16, x17, x18, x19, x20] (H ++ g) := by
  obtain ⟨rs, f1, f2, f3⟩ := sorted_rows e15 ok hk hl
  have e0 : evE gs C (.blt .sorted [.v 15]) [some x0, some (.ref s), some (.ref b2), some (.ref b3), some (.ref b4), some (.ref b5), x6, x7, x8, x9, x10, x11, x12, x13, x14, some (.ref b15), x16, x17, x18, x19, x20] H = .ok (.ref H.length) (H ++ [.lst (rs.map (rV acc nm))]) := by simp only [evE, evEs, bind_ok, List.getElem?_cons_succ, List.getElem?_cons_zero, f1]
  obtain ⟨g1, e1⟩ := lc_map (C := C) (elt := .v 19) (tg := .many [20, 10, 18, 19]) (own := [20, 10, 18, 19]) (xs := rs.map (rV acc nm)) kOf (evI_l e0 get_new) (lf_l get_new) (by rw [List.length_map]; omega) (fun H k x => at_lst get_new H k x) (by
    intro x hx
    obtain ⟨r, _, rfl⟩ := List.mem_map.mp hx
    refine ⟨_, rfl, fun H2 _ => ⟨[], ?_⟩⟩
    rw [List.append_nil]
    rfl)
  have k1 : (rs.map (rV acc nm)).map kOf = (sortS ((r0 :: rows).map (rK acc nm))).map .str := by
    rw [← f3, List.map_map, List.map_map]
    rfl
  rw [k1] at e1
  generalize hH1 : H ++ [MO.lst (rs.map (rV acc nm))] = H1 at e1
  have x1 : Ext H H1 := hH1 ▸ Ext.app
  have m1 : (H1 ++ MO.lst ((sortS ((r0 :: rows).map (rK acc nm))).map .str) :: g1)[H1.length]? = some (.lst ((sortS ((r0 :: rows).map (rK acc nm))).map .str)) := get_mid
  generalize hH2 : H1 ++ MO.lst ((sortS ((r0 :: rows).map (rK acc nm))).map .str) :: g1 = H2 at e1 m1
  have x2 : Ext H1 H2 := hH2 ▸ Ext.app
  have m15 := (x1.trans x2).get e15
  have e2 : evE gs C (.v 15) [some x0, some (.ref s), some (.ref b2), some (.ref b3), some (.ref b4), some (.ref b5), x6, x7, x8, x9, x10, x11, x12, x13, x14, some (.ref b15), x16, x17, x18, x19, x20] H2 = .ok (.ref b15) H2 := by simp only [evE, List.getElem?_cons_succ, List.getElem?_cons_zero]
  obtain ⟨g3, e3⟩ := lc_map (C := C) (elt := .ix (.v 17) (.k (.int 3))) (tg := .one 17) (own := [17]) (xs := (r0 :: rows).map (rV acc nm)) kOf (evI_l e2 m15) (lf_l m15) (by rw [List.length_map, List.length_cons]; omega) (fun H k x => at_lst m15 H k x) (by
    intro x hx
    obtain ⟨r, _, rfl⟩ := List.mem_map.mp hx
    refine ⟨[some x0, some (.ref s), some (.ref b2), some (.ref b3), some (.ref b4), some (.ref b5), x6, x7, x8, x9, x10, x11, x12, x13, x14, some (.ref b15), x16, some (rV acc nm r), x18, x19, x20], rfl, fun H3 _ => ⟨[], ?_⟩⟩
    have i3 : ∀ a b c d : MV, atI [a, b, c, d] 3 = some d := fun _ _ _ _ => rfl
    unfold rV
    simp only [evB, evS, evE, evT, evEs, evBo, evBoT, evIfC, evP, evI, bind_ok, bind_ex, bind_err, then_ok, then_ex, then_err, opt_some, opt_none, gd_f, gd_ok, t_non, t_bl, t_int, t_tup, b_ii, b_sub, c_eq_i, c_ne_i, c_eq_s, c_ne_s, c_eq_b, c_ne_b, c_lt_i, c_gt_i, c_le_i, c_ge_i, m_lt_i, m_le_i, m_le_s, c_is_n, c_isn_n, c_is_b, c_isn_b, is_n, is_i, is_s, is_b, is_t, is_r, c_in_c, c_nin_c, l_t, i_i, o_c, ix_t, ty_n, ty_b, ty_i, ty_s, ty_t, isinM, asgC, setAll, List.map_cons, List.map_nil, List.cons_append, List.nil_append, List.length_cons, List.length_nil, List.replicate_succ, List.replicate_zero, List.getElem?_cons_zero, List.getElem?_cons_succ, List.getElem?_nil, List.set_cons_zero, List.set_cons_succ, if_true, if_false, Bool.not_true, Bool.not_false, Bool.false_eq_true, Option.map_some, Option.map_none, List.any_cons, List.any_nil, Bool.or_false, Bool.false_or, Bool.or_true, Bool.true_or, Bool.and_true, Bool.true_and, Bool.false_and, Bool.and_false, beq_self_eq_true, String.reduceBEq, decide_true, decide_false, Nat.reduceAdd, Nat.reduceSub, Nat.zero_add, Int.natAbs_natCast, and_self, true_and, and_true, List.isEmpty_cons, List.isEmpty_nil, Option.isSome_some, Option.isSome_none, List.append_nil, i3, kOf])
  have k3 : ((r0 :: rows).map (rV acc nm)).map kOf = ((r0 :: rows).map (rK acc nm)).map .str := by
    rw [List.map_map, List.map_map]
    rfl
  rw [k3] at e3
  have m3 : (H2 ++ MO.lst (((r0 :: rows).map (rK acc nm)).map .str) :: g3)[H2.length]? = some (.lst (((r0 :: rows).map (rK acc nm)).map .str)) := get_mid
  generalize hH3 : H2 ++ MO.lst (((r0 :: rows).map (rK acc nm)).map .str) :: g3 = H3 at e3 m3
  have x3 : Ext H2 H3 := hH3 ▸ Ext.app
  have e4 := sorted_strs m3 (by rw [List.length_map, List.length_cons]; omega)
  have ne := ne_strs (h := H3 ++ [.lst ((sortS ((r0 :: rows).map (rK acc nm))).map .str)]) (a := H1.length) (b := H3.length) (ts := sortS ((r0 :: rows).map (rK acc nm))) (Ext.app.get (x3.get m1)) get_new (by
    intro t ht
    obtain ⟨r, hr, rfl⟩ := List.mem_map.mp (mem_sortS.mp ht)
    exact hk r hr)
  obtain ⟨g, hg⟩ := ((x1.trans x2).trans x3).trans (Ext.app (g := [.lst ((sortS ((r0 :: rows).map (rK acc nm))).map .str)]))
  refine ⟨g, ?_⟩
  rw [← hg]
  generalize sortS ((r0 :: rows).map (rK acc nm)) = SS at *
  unfold st20 lcA lcB
  generalize (CE.lc (.v 19) (.many [20, 10, 18, 19]) 0 [.blt .sorted [.v 15]] [] [20, 10, 18, 19]) = N1 at e1 ⊢
  generalize (CE.lc (.ix (.v 17) (.k (.int 3))) (.one 17) 0 [.v 15] [] [17]) = N2 at e3 ⊢
  simp only [evB, evS, evE, evT, evEs, evBo, evBoT, evIfC, evP, evI, bind_ok, bind_ex, bind_err, then_ok, then_ex, then_err, opt_some, opt_none, gd_f, gd_ok, t_non, t_bl, t_int, t_tup, b_ii, b_sub, c_eq_i, c_ne_i, c_eq_s, c_ne_s, c_eq_b, c_ne_b, c_lt_i, c_gt_i, c_le_i, c_ge_i, m_lt_i, m_le_i, m_le_s, c_is_n, c_isn_n, c_is_b, c_isn_b, is_n, is_i, is_s, is_b, is_t, is_r, c_in_c, c_nin_c, l_t, i_i, o_c, ix_t, ty_n, ty_b, ty_i, ty_s, ty_t, isinM, asgC, setAll, List.map_cons, List.map_nil, List.cons_append, List.nil_append, List.length_cons, List.length_nil, List.replicate_succ, List.replicate_zero, List.getElem?_cons_zero, List.getElem?_cons_succ, List.getElem?_nil, List.set_cons_zero, List.set_cons_succ, if_true, if_false, Bool.not_true, Bool.not_false, Bool.false_eq_true, Option.map_some, Option.map_none, List.any_cons, List.any_nil, Bool.or_false, Bool.false_or, Bool.or_true, Bool.true_or, Bool.and_true, Bool.true_and, Bool.false_and, Bool.and_false, beq_self_eq_true, String.reduceBEq, decide_true, decide_false, Nat.reduceAdd, Nat.reduceSub, Nat.zero_add, Int.natAbs_natCast, and_self, true_and, and_true, List.isEmpty_cons, List.isEmpty_nil, Option.isSome_some, Option.isSome_none, List.append_nil, e1, e3, e4, ne]
theorem e_21 (n : Nat) (w : Wd H s q b2 b3 b4 b5 L) : ∃ H', evS gs (cc (n + 2)) st21 [some x0, some (.ref s), some (.ref b2), some (.ref b3), some (.ref b4), some (.ref b5), x6, x7, x8, x9, x10, x11, x12, x13, x14, x15, x16, x17, x18, x19, x20] H = .rt (.bl true) H' := by
  have hl := w.u.1
  have ev2 : ∀ H, evE gs (cc (n + 2)) (.v 2) [some x0, some (.ref s), some (.ref b2), some (.ref b3), some (.ref b4), some (.ref b5), x6, x7, x8, x9, x10, x11, x12, x13, x14, x15, x16, x17, x18, x19, x20] H = .ok (.ref b2) H := fun H => by simp only [evE, List.getElem?_cons_succ, List.getElem?_cons_zero]
  have go : ∀ (i : Nat) (hc : ∀ v : Nat, v < 1000000 → ∀ H, cc (n + 2) i [.int v] H = .ok (.str (six v)) H) (H : MH), H[b2]? = some (.lst (iL L)) → ∃ g, evE gs (cc (n + 2)) (.lc (.call i [.v 10] [] false) (.one 10) 0 [.v 2] [] [10]) [some x0, some (.ref s), some (.ref b2), some (.ref b3), some (.ref b4), some (.ref b5), x6, x7, x8, x9, x10, x11, x12, x13, x14, x15, x16, x17, x18, x19, x20] H = .ok (.ref H.length) (H ++ .lst ((L.map six).map .str) :: g) := by
    intro i hc H e2
    obtain ⟨g, e⟩ := calls_ev (C := cc (n + 2)) (elt := .call i [.v 10] [] false) (j := 10) (sm := [some x0, some (.ref s), some (.ref b2), some (.ref b3), some (.ref b4), some (.ref b5), x6, x7, x8, x9, x10, x11, x12, x13, x14, x15, x16, x17, x18, x19, x20]) (fun k : Nat => .int k) (fun k => .str (six k)) (ev2 H) e2 (by omega) (by
      intro v hv H' _
      refine ⟨[], ?_⟩
      simp only [evB, evS, evE, evT, evEs, evBo, evBoT, evIfC, evP, evI, bind_ok, bind_ex, bind_err, then_ok, then_ex, then_err, opt_some, opt_none, gd_f, gd_ok, t_non, t_bl, t_int, t_tup, b_ii, b_sub, c_eq_i, c_ne_i, c_eq_s, c_ne_s, c_eq_b, c_ne_b, c_lt_i, c_gt_i, c_le_i, c_ge_i, m_lt_i, m_le_i, m_le_s, c_is_n, c_isn_n, c_is_b, c_isn_b, is_n, is_i, is_s, is_b, is_t, is_r, c_in_c, c_nin_c, l_t, i_i, o_c, ix_t, ty_n, ty_b, ty_i, ty_s, ty_t, isinM, asgC, setAll, List.map_cons, List.map_nil, List.cons_append, List.nil_append, List.length_cons, List.length_nil, List.replicate_succ, List.replicate_zero, List.getElem?_cons_zero, List.getElem?_cons_succ, List.getElem?_nil, List.set_cons_zero, List.set_cons_succ, if_true, if_false, Bool.not_true, Bool.not_false, Bool.false_eq_true, Option.map_some, Option.map_none, List.any_cons, List.any_nil, Bool.or_false, Bool.false_or, Bool.or_true, Bool.true_or, Bool.and_true, Bool.true_and, Bool.false_and, Bool.and_false, beq_self_eq_true, String.reduceBEq, decide_true, decide_false, Nat.reduceAdd, Nat.reduceSub, Nat.zero_add, Int.natAbs_natCast, and_self, true_and, and_true, List.isEmpty_cons, List.isEmpty_nil, Option.isSome_some, Option.isSome_none, List.append_nil, wipeM, hc v (w.u.2.1 v hv)])
    refine ⟨g, ?_⟩
    rw [e, List.map_map]
    rfl
  obtain ⟨g1, e1⟩ := go 35 (fun v hv H => r35 n v H hv) H w.e2
  have m1 : (H ++ MO.lst ((L.map six).map .str) :: g1)[H.length]? = some (.lst ((L.map six).map .str)) := get_mid
  generalize hH1 : H ++ MO.lst ((L.map six).map .str) :: g1 = H1 at e1 m1
  have x1 : Ext H H1 := hH1 ▸ Ext.app
  obtain ⟨g2, e2⟩ := go 53 (fun v hv H => r53 (n + 1) v H hv) H1 (x1.get w.e2)
  have m2 : (H1 ++ MO.lst ((L.map six).map .str) :: g2)[H1.length]? = some (.lst ((L.map six).map .str)) := get_mid
  have m1' : (H1 ++ MO.lst ((L.map six).map .str) :: g2)[H.length]? = some (.lst ((L.map six).map .str)) := Ext.app.get m1
  generalize H1 ++ MO.lst ((L.map six).map .str) :: g2 = H2 at e2 m2 m1'
  have q2 := eq_strs (ts := L.map six) m1' m2 (by rw [List.length_map]; omega)
  have c := r49 2 _ _ H2 n q2
  rw [show 2 + n = n + 2 by omega] at c
  refine ⟨H2, ?_⟩
  unfold st21 lcC' lcD
  generalize (CE.lc (.call 35 [.v 10] [] false) (.one 10) 0 [.v 2] [] [10]) = N1 at e1 ⊢
  generalize (CE.lc (.call 53 [.v 10] [] false) (.one 10) 0 [.v 2] [] [10]) = N2 at e2 ⊢
  simp only [evB, evS, evE, evT, evEs, evBo, evBoT, evIfC, evP, evI, bind_ok, bind_ex, bind_err, then_ok, then_ex, then_err, opt_some, opt_none, gd_f, gd_ok, t_non, t_bl, t_int, t_tup, b_ii, b_sub, c_eq_i, c_ne_i, c_eq_s, c_ne_s, c_eq_b, c_ne_b, c_lt_i, c_gt_i, c_le_i, c_ge_i, m_lt_i, m_le_i, m_le_s, c_is_n, c_isn_n, c_is_b, c_isn_b, is_n, is_i, is_s, is_b, is_t, is_r, c_in_c, c_nin_c, l_t, i_i, o_c, ix_t, ty_n, ty_b, ty_i, ty_s, ty_t, isinM, asgC, setAll, List.map_cons, List.map_nil, List.cons_append, List.nil_append, List.length_cons, List.length_nil, List.replicate_succ, List.replicate_zero, List.getElem?_cons_zero, List.getElem?_cons_succ, List.getElem?_nil, List.set_cons_zero, List.set_cons_succ, if_true, if_false, Bool.not_true, Bool.not_false, Bool.false_eq_true, Option.map_some, Option.map_none, List.any_cons, List.any_nil, Bool.or_false, Bool.false_or, Bool.or_true, Bool.true_or, Bool.and_true, Bool.true_and, Bool.false_and, Bool.and_false, beq_self_eq_true, String.reduceBEq, decide_true, decide_false, Nat.reduceAdd, Nat.reduceSub, Nat.zero_add, Int.natAbs_natCast, and_self, true_and, and_true, List.isEmpty_cons, List.isEmpty_nil, Option.isSome_some, Option.isSome_none, List.append_nil, e1, e2, c]
end
end Pg
end

section
set_option linter.all false
set_option maxRecDepth 100000
set_option maxHeartbeats 1000000
namespace Pg
open PySem PySem.Spec L2 Mn
open TL (numL)
theorem tbOk_of {g : GS} : ∀ {fs : List FI} {T : Tb}, fs.length = T.length → (∀ i, i < T.length → (fs[i]?).bind (cBody g) = (T[i]?).map (·.2) ∧ (fs[i]?).map (fun f => f.N.length) = (T[i]?).map (·.1)) → tbOk g fs T
  | [], [], _, _ => trivial
  | f :: fs, p :: T, hl, h => by
    have h0 := h 0 (by simp)
    refine ⟨by simpa using h0.1, by simpa using h0.2, tbOk_of (by simpa using hl) fun i hi => ?_⟩
    have := h (i + 1) (by simpa using hi)
    simpa using this
  | [], _ :: _, hl, _ => by simp at hl
  | _ :: _, [], hl, _ => by simp at hl
theorem tball : ∀ i : Nat, i < 57 → ((funs[i]?).bind (cBody gs) = (T[i]?).map (·.2) ∧ (funs[i]?).map (fun f => f.N.length) = (T[i]?).map (·.1))
  | 0, _ => ⟨cb0, n0⟩
  | 1, _ => ⟨cb1, n1⟩
  | 2, _ => ⟨cb2, n2⟩
  | 3, _ => ⟨cb3, n3⟩
  | 4, _ => ⟨cb4, n4⟩
  | 5, _ => ⟨cb5, n5⟩
  | 6, _ => ⟨cb6, n6⟩
  | 7, _ => ⟨cb7, n7⟩
  | 8, _ => ⟨cb8, n8⟩
  | 9, _ => ⟨cb9, n9⟩
  | 10, _ => ⟨cb10, n10⟩
  | 11, _ => ⟨cb11, n11⟩
  | 12, _ => ⟨cb12, n12⟩
  | 13, _ => ⟨cb13, n13⟩
  | 14, _ => ⟨cb14, n14⟩
  | 15, _ => ⟨cb15, n15⟩
  | 16, _ => ⟨cb16, n16⟩
  | 17, _ => ⟨cb17, n17⟩
  | 18, _ => ⟨cb18, n18⟩
  | 19, _ => ⟨cb19, n19⟩
  | 20, _ => ⟨cb20, n20⟩
  | 21, _ => ⟨cb21, n21⟩
  | 22, _ => ⟨cb22, n22⟩
  | 23, _ => ⟨cb23, n23⟩
  | 24, _ => ⟨cb24, n24⟩
  | 25, _ => ⟨cb25, n25⟩
  | 26, _ => ⟨cb26, n26⟩
  | 27, _ => ⟨cb27, n27⟩
  | 28, _ => ⟨cb28, n28⟩
  | 29, _ => ⟨cb29, n29⟩
  | 30, _ => ⟨cb30, n30⟩
  | 31, _ => ⟨cb31, n31⟩
  | 32, _ => ⟨cb32, n32⟩
  | 33, _ => ⟨cb33, n33⟩
  | 34, _ => ⟨cb34, n34⟩
  | 35, _ => ⟨cb35, n35⟩
  | 36, _ => ⟨cb36, n36⟩
  | 37, _ => ⟨cb37, n37⟩
  | 38, _ => ⟨cb38, n38⟩
  | 39, _ => ⟨cb39, n39⟩
  | 40, _ => ⟨cb40, n40⟩
  | 41, _ => ⟨cb41, n41⟩
  | 42, _ => ⟨cb42, n42⟩
  | 43, _ => ⟨cb43, n43⟩
  | 44, _ => ⟨cb44, n44⟩
  | 45, _ => ⟨cb45, n45⟩
  | 46, _ => ⟨cb46, n46⟩
  | 47, _ => ⟨cb47, n47⟩
  | 48, _ => ⟨cb48, n48⟩
  | 49, _ => ⟨cb49, n49⟩
  | 50, _ => ⟨cb50, n50⟩
  | 51, _ => ⟨cb51, n51⟩
  | 52, _ => ⟨cb52, n52⟩
  | 53, _ => ⟨cb53, n53⟩
  | 54, _ => ⟨cb54, n54⟩
  | 55, _ => ⟨cb55, n55⟩
  | 56, _ => ⟨cb56, n56⟩
  | n + 57, h => absurd h (by omega)
theorem tlen : T.length = 57 := rfl
theorem flen : funs.length = 57 := by kernel_rfl
theorem tb_ok : tbOk gs gs.funs T := tbOk_of (by rw [tlen]; exact flen) (by rw [tlen]; exact tball)
theorem nxt {C : CallS} {st : CS} {r : List CS} {sm sm' : MSt} {h h' : MH} (e : evS gs C st sm h = .nx sm' h') : evB gs C (st :: r) sm h = evB gs C r sm' h' := by
  simp only [evB, e]
theorem nxts {C : CallS} : ∀ {a r : List CS} {sm sm' : MSt} {h h' : MH}, evB gs C a sm h = .nx sm' h' → evB gs C (a ++ r) sm h = evB gs C r sm' h'
  | [], r, sm, sm', h, h', e => by
    simp only [evB] at e
    cases e
    rfl
  | st :: a, r, sm, sm', h, h', e => by
    rw [List.cons_append]
    simp only [evB] at e ⊢
    cases hq : evS gs C st sm h with
    | nx s1 h1 =>
      rw [hq] at e
      dsimp only at e ⊢
      exact nxts e
    | rt v h1 => rw [hq] at e; cases e
    | bk s1 h1 => rw [hq] at e; cases e
    | ct s1 h1 => rw [hq] at e; cases e
    | ex x s1 h1 => rw [hq] at e; cases e
    | err => rw [hq] at e; cases e
theorem key_ok {acc nm : List Nat} (ha : okT acc) (hn : okT nm) (r : Rw) : okT (rK acc nm r) := by
  intro c hc
  simp only [rK, keyT, List.mem_append, List.mem_cons, List.not_mem_nil, or_false] at hc
  have s1 := six_ok r.d c
  have s2 := six_ok r.n c
  have s3 := six_ok r.p c
  have a1 := ha c
  have n1 := hn c
  rcases hc with (((((((hc | hc) | hc) | hc) | hc) | hc) | hc) | hc) | hc
  · exact a1 hc
  · omega
  · exact s1 hc
  · omega
  · exact n1 hc
  · omega
  · exact s2 hc
  · omega
  · exact s3 hc
section
variable {s q b2 b3 b4 b5 : Nat} {H : MH} {L : List Nat} {x0 : MV} {x6 x7 x8 x9 x10 x11 x12 x13 x14 x15 x16 x17 x18 x19 x20 : Option MV}
theorem e_17 (n : Nat) (w : Wd H s q b2 b3 b4 b5 L) : ∃ (w0 w1 : List Nat) (H' : MH), evS gs (cc (n + 3)) st17 [some x0, some (.ref s), some (.ref b2), some (.ref b3), some (.ref b4), some (.ref b5), x6, x7, x8, x9, x10, x11, x12, x13, x14, x15, x16, x17, x18, x19, x20] H = .nx [some x0, some (.ref s), some (.ref b2), some (.ref b3), some (.ref b4), some (.ref b5), x6, x7, x8, x9, x10, x11, x12, x13, some (.ref H.length), x15, x16, x17, x18, x19, x20] H' ∧ H'[H.length]? = some (.lst [.str w0, .str w1]) ∧ Low w0 ∧ Low w1 ∧ Wd H' s q b2 b3 b4 b5 L := by
  obtain ⟨H', w0, w1, e, f1, f2, f3, f4, f5⟩ := r52 n w.st
  refine ⟨w0, w1, H', ?_, f1, f2, f3, w.keep f4 f5⟩
  unfold st17
  simp only [evB, evS, evE, evT, evEs, evBo, evBoT, evIfC, evP, evI, bind_ok, bind_ex, bind_err, then_ok, then_ex, then_err, opt_some, opt_none, gd_f, gd_ok, t_non, t_bl, t_int, t_tup, b_ii, b_sub, c_eq_i, c_ne_i, c_eq_s, c_ne_s, c_eq_b, c_ne_b, c_lt_i, c_gt_i, c_le_i, c_ge_i, m_lt_i, m_le_i, m_le_s, c_is_n, c_isn_n, c_is_b, c_isn_b, is_n, is_i, is_s, is_b, is_t, is_r, c_in_c, c_nin_c, l_t, i_i, o_c, ix_t, ty_n, ty_b, ty_i, ty_s, ty_t, isinM, asgC, setAll, List.map_cons, List.map_nil, List.cons_append, List.nil_append, List.length_cons, List.length_nil, List.replicate_succ, List.replicate_zero, List.getElem?_cons_zero, List.getElem?_cons_succ, List.getElem?_nil, List.set_cons_zero, List.set_cons_succ, if_true, if_false, Bool.not_true, Bool.not_false, Bool.false_eq_true, Option.map_some, Option.map_none, List.any_cons, List.any_nil, Bool.or_false, Bool.false_or, Bool.or_true, Bool.true_or, Bool.and_true, Bool.true_and, Bool.false_and, Bool.and_false, beq_self_eq_true, String.reduceBEq, decide_true, decide_false, Nat.reduceAdd, Nat.reduceSub, Nat.zero_add, Int.natAbs_natCast, and_self, true_and, and_true, List.isEmpty_cons, List.isEmpty_nil, Option.isSome_some, Option.isSome_none, List.append_nil, e]
end
theorem run56 (n : Nat) (ns : List Int) : ∃ H, evB gs (cc (n + 4)) c56 [some (.sq (ns.map .int)), none, none, none, none, none, none, none, none, none, none, none, none, none, none, none, none, none, none, none, none] [] = .rt (.bl true) H := by
  rw [c56_eq]
  have f1 := e_st1 (cc (n + 4)) ns
  obtain ⟨h2, b2, L, f2, k2, t2, l2, m2, u⟩ := e_st2 (n + 3) (x0 := .sq (ns.map .int)) (y2 := none) (y3 := none) (y4 := none) (y5 := none) (x6 := none) (x7 := none) (x8 := none) (x9 := none) (x10 := none) (x11 := none) (x12 := none) (x13 := none) (x14 := none) (x15 := none) (x16 := none) (x17 := none) (x18 := none) (x19 := none) (x20 := none) (st_first ns)
  have n2 : b2 ≠ 1 := by
    simp at l2
    omega
  obtain ⟨h5, b3, b4, b5, f5, w5⟩ := e_345 (n + 3) (x0 := .sq (ns.map .int)) (x6 := none) (x7 := none) (x8 := none) (x9 := none) (x10 := none) (x11 := none) (x12 := none) (x13 := none) (x14 := none) (x15 := none) (x16 := none) (x17 := none) (x18 := none) (x19 := none) (x20 := none) t2 u m2 n2
  obtain ⟨h6, f6, w6⟩ := e_6 (n + 1) (x0 := .sq (ns.map .int)) (x6 := none) (x7 := none) (x8 := none) (x9 := none) (x10 := none) (x11 := none) (x12 := none) (x13 := none) (x14 := none) (x15 := none) (x16 := none) (x17 := none) (x18 := none) (x19 := none) (x20 := none) w5
  obtain ⟨h7, f7, w7⟩ := e_7 (n + 1) (x0 := .sq (ns.map .int)) (x6 := none) (x7 := none) (x8 := none) (x9 := none) (x10 := none) (x11 := none) (x12 := none) (x13 := none) (x14 := none) (x15 := none) (x16 := none) (x17 := none) (x18 := none) (x19 := none) (x20 := none) w6
  obtain ⟨h8, f8, w8⟩ := e_8 (cc (n + 4)) (x0 := .sq (ns.map .int)) (x6 := none) (x7 := none) (x8 := none) (x9 := none) (x10 := none) (x11 := none) (x12 := none) (x13 := none) (x14 := none) (x15 := none) (x16 := none) (x17 := none) (x18 := none) (x19 := none) (x20 := none) w7
  obtain ⟨z6, h9, f9, w9⟩ := e_9 (n + 3) (x0 := .sq (ns.map .int)) (x6 := none) (x7 := none) (x8 := none) (x9 := none) (x10 := none) (x11 := none) (x12 := none) (x13 := none) (x14 := none) (x15 := none) (x16 := none) (x17 := none) (x18 := none) (x19 := none) (x20 := none) w8
  obtain ⟨z7, h10, f10, w10⟩ := e_10 n (x0 := .sq (ns.map .int)) (x6 := z6) (x7 := none) (x8 := none) (x9 := none) (x10 := none) (x11 := none) (x12 := none) (x13 := none) (x14 := none) (x15 := none) (x16 := none) (x17 := none) (x18 := none) (x19 := none) (x20 := none) w9
  obtain ⟨z8, h11, f11, w11⟩ := e_11 n (x0 := .sq (ns.map .int)) (x6 := z6) (x7 := z7) (x8 := none) (x9 := none) (x10 := none) (x11 := none) (x12 := none) (x13 := none) (x14 := none) (x15 := none) (x16 := none) (x17 := none) (x18 := none) (x19 := none) (x20 := none) w10
  obtain ⟨y6, h13, ts, f13, w13, d13, p13⟩ := e_1213 (n + 1) (x0 := .sq (ns.map .int)) (x6 := z6) (x7 := z7) (x8 := z8) (x9 := none) (x10 := none) (x11 := none) (x12 := none) (x13 := none) (x14 := none) (x15 := none) (x16 := none) (x17 := none) (x18 := none) (x19 := none) (x20 := none) w11
  obtain ⟨h14, f14, w14⟩ := e_14 (n + 1) h11.length (x0 := .sq (ns.map .int)) (x6 := y6) (x7 := z7) (x8 := z8) (x10 := none) (x11 := none) (x12 := none) (x13 := none) (x14 := none) (x15 := none) (x16 := none) (x17 := none) (x18 := none) (x19 := none) (x20 := none) w13 d13 p13
  obtain ⟨z10, z11, z12, z13, h15, f15, w15⟩ := e_15 n (x0 := .sq (ns.map .int)) (x6 := y6) (x7 := z7) (x8 := z8) (x9 := some (.ref h11.length)) (x10 := none) (x11 := none) (x12 := none) (x13 := none) (x14 := none) (x15 := none) (x16 := none) (x17 := none) (x18 := none) (x19 := none) (x20 := none) w14
  obtain ⟨y13, h16, f16, w16⟩ := e_16 n (x0 := .sq (ns.map .int)) (x6 := y6) (x7 := z7) (x8 := z8) (x9 := some (.ref h11.length)) (x10 := z10) (x11 := z11) (x12 := z12) (x13 := z13) (x14 := none) (x15 := none) (x16 := none) (x17 := none) (x18 := none) (x19 := none) (x20 := none) w15
  obtain ⟨w0, w1, h17, f17, m17, lo0, lo1, w17⟩ := e_17 (n + 1) (x0 := .sq (ns.map .int)) (x6 := y6) (x7 := z7) (x8 := z8) (x9 := some (.ref h11.length)) (x10 := z10) (x11 := z11) (x12 := z12) (x13 := y13) (x14 := none) (x15 := none) (x16 := none) (x17 := none) (x18 := none) (x19 := none) (x20 := none) w16
  have n14 : h16.length ≠ 1 := by have := w16.lts.1; omega
  obtain ⟨rows, z16, z17, z18, z19, h19, rl, rok, f19, m19, k19, t19⟩ := e_19 (n + 1) (x0 := .sq (ns.map .int)) (b2 := b2) (b3 := b3) (b4 := b4) (b5 := b5) (x6 := y6) (x7 := z7) (x8 := z8) (x9 := some (.ref h11.length)) (x10 := z10) (x11 := z11) (x12 := z12) (x13 := y13) (x15 := none) (x16 := none) (x17 := none) (x18 := none) (x19 := none) (x20 := none) w17.st m17 n14 lo0 lo1
  have w19 := w17.keep k19 t19
  match rows, rl, rok, m19 with
  | r0 :: rows, rl, rok, m19 =>
    have oa : okT (w0 ++ [46, 97]) := by
      intro c hc
      rcases List.mem_append.mp hc with hc | hc
      · have := lo0.2.2 c hc
        omega
      · simp only [List.mem_cons, List.not_mem_nil, or_false] at hc
        omega
    have on : okT w1 := by
      intro c hc
      have := lo1.2.2 c hc
      omega
    obtain ⟨g20, f20⟩ := e_20 (s := 1) (b2 := b2) (b3 := b3) (b4 := b4) (b5 := b5) (x0 := .sq (ns.map .int)) (x6 := y6) (x7 := z7) (x8 := z8) (x9 := some (.ref h11.length)) (x10 := z10) (x11 := z11) (x12 := z12) (x13 := y13) (x14 := some (.ref h16.length)) (x16 := z16) (x17 := z17) (x18 := z18) (x19 := z19) (x20 := none) (cc (n + 4)) m19 rok (fun r _ => key_ok oa on r) (by simp at rl; omega)
    obtain ⟨h21, f21⟩ := e_21 (n + 2) (x0 := .sq (ns.map .int)) (x6 := y6) (x7 := z7) (x8 := z8) (x9 := some (.ref h11.length)) (x10 := z10) (x11 := z11) (x12 := z12) (x13 := y13) (x14 := some (.ref h16.length)) (x15 := some (.ref h17.length)) (x16 := z16) (x17 := z17) (x18 := z18) (x19 := z19) (x20 := none) (w19.app (g := g20))
    refine ⟨h21, ?_⟩
    rw [nxt f1, nxt f2]
    rw [show ∀ r : List CS, st3 :: st4 :: st5 :: r = [st3, st4, st5] ++ r from fun _ => rfl, nxts f5]
    rw [nxt f6, nxt f7, nxt f8, nxt f9, nxt f10, nxt f11]
    rw [show ∀ r : List CS, st12 :: st13 :: r = [st12, st13] ++ r from fun _ => rfl, nxts f13]
    rw [nxt f14, nxt f15, nxt f16, nxt f17]
    rw [show ∀ r : List CS, st18 :: st19 :: r = [st18, st19] ++ r from fun _ => rfl, nxts f19]
    rw [nxt f20]
    simp only [evB, f21]
theorem plain (ns : List Int) (_ : ns.length ≤ 63) : ∃ h, callF gs 30 56 [.sq (ns.map .int)] [] = .ok (.bl true) h := by
  obtain ⟨H, e⟩ := run56 25 ns
  refine ⟨H, ?_⟩
  rw [callC_eq tb_ok 30]
  show cc (29 + 1) 56 [.sq (ns.map .int)] [] = _
  rw [call_res (k := 21) (b := c56) rfl]
  simp only [List.map_cons, List.map_nil, List.length_cons, List.length_nil, Nat.reduceAdd, Nat.reduceSub, List.replicate_succ, List.replicate_zero, List.cons_append, List.nil_append]
  rw [e]
  rfl
end Pg
end

set_option maxRecDepth 100000
set_option maxHeartbeats 0
namespace Pg
open PySem PySem.Spec PyProof.Rows L2 Mn
abbrev R : PySem.W.OpenRow := PySem.W.OpenLaw.row PySem.Challenge.rw_desksagree_k65_whole_names_of_files_ther
def lawAt : Nat := tops.length - 1
def fa : List He.Fa := faOf gs
def fn : List He.DefD := gs.funs.map (·.d)
abbrev hk : PySem.W.Hook := He.hookD 6 fa fn
def ob (s : PySem.W.SharedT) : He.AlD := He.obsDG 6 fa fn (HandSHeadRun.getT s)
theorem ob_eq (s : PySem.W.SharedT) : ob s = hk.obs s.abs := He.obsDG_eq (HandSHeadRun.getT_eq s)
theorem okg : okG gs = true := by kernel_rfl
theorem ndc : gs.nm.clss.Nodup := by decide +kernel
theorem run (w : World) : HandSHeadRun.RunEq R (PySem.W.view R.prog [lawAt]) hk ob 4000 (looseOf tops) w := by
  intro os
  kernel_rfl
def lawF : FI := (gs.funs[56]?).getD ⟨⟨("", none), "", "", ⟨[], [], none, [], [], none, []⟩, [], ⟨.function, [], false, false, []⟩, [], []⟩, [], true⟩
theorem lawF_at : gs.funs[56]? = some lawF := by kernel_rfl
theorem lawF_name : lawF.at_ = (("law" : Str), none) := by kernel_rfl
theorem lawF_ps : lawF.ps = [("script" : Str)] := by kernel_rfl
theorem lawF_dfl : lawF.d.dfl = [] := by kernel_rfl
end Pg
open PySem PySem.W PySem.Calls PyProof.Rows
theorem PySem.Challenge.cw_desksagree_k65_whole_names_of_files_ther_holds : PySem.Challenge.rw_desksagree_k65_whole_names_of_files_ther.Holds := by
  w_on; o_law
  refine HandSHeadRun.head_any (r := OpenLaw.row PySem.Challenge.rw_desksagree_k65_whole_names_of_files_ther) (q := view (OpenLaw.row PySem.Challenge.rw_desksagree_k65_whole_names_of_files_ther).prog [Pg.lawAt]) (H := Pg.hk) (ob := Pg.ob) (M := 4000) (loose := Mn.looseOf Pg.tops) (d := HandSHeadRun.topDef (OpenLaw.row PySem.Challenge.rw_desksagree_k65_whole_names_of_files_ther).prog Pg.lawAt) (kwd := []) Pg.ob_eq
    (by kernel_rfl) (fun s => by kernel_rfl) Pg.run (by kernel_rfl) (by kernel_rfl) (by kernel_rfl) (by rfl) (by first | assumption | decide +kernel) (by decide +kernel) ⟨rfl, rfl, rfl, rfl, rfl, by decide +kernel⟩ ?hw ?hc
  case hw => w_witness2
  case hc =>
    refine L2.walk_ofE (l := PySem.Challenge.rw_desksagree_k65_whole_names_of_files_ther) (n := 63) (k := 2 * 30) (x := "script") (CX := L2.CX0) rfl (by rw [sizeLine_eq]; decide) (by kernel_rfl) ⟨rfl, by decide, by decide⟩ ?F (fun _ _ _ _ z => z)
    intro w mg fa h Y G hmg0
    obtain ⟨K, KX, c⟩ := Y
    have hmg : mg ("law" : PySem.Str) = some (.ref fa) := by
      have e : (HandSHeadRun.topDef (OpenLaw.row PySem.Challenge.rw_desksagree_k65_whole_names_of_files_ther).prog Pg.lawAt).name = ("law" : PySem.Str) := by kernel_rfl
      rw [← e]
      exact hmg0
    obtain ⟨fd, sp, h1, h2, h3⟩ := Mn.law_ok (P := (PySem.Challenge.rw_desksagree_k65_whole_names_of_files_ther).prog) (w := w) (f := Pg.lawF) (i := 56) (n := 30) KX G c Pg.okg Pg.ndc Pg.lawF_at Pg.lawF_name Pg.lawF_ps Pg.lawF_dfl hmg Pg.plain
    exact ⟨K, fd, sp, KX, h1, h2, h3⟩
