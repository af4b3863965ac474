import PyProof.Rows.All
import Wide.All
import OpenK.AllK
import Wide.FinOn
import PySem.Challenge.RW_slideinto_k44_whole_witnesses
import HandS.ForMost
import HandS.Deep
import HandS.Conv
import HandS.Flow
import HandS.Style
import HandS.IsInst
import HandS.TupSets
import HandS.DictTup
import HandS.TupAny
import KE.KDictKeyed
import KE.DataMinMax
import KE.SortData
import PyProof.DictMoreH
import HandS.SortKw
import HandS.SetBool
import HandS.DictComp
import HandS.TupLen
import HandS.Walk
import PyProof.Transfer
import KE.GoesMore
import HandS.ExcInit
import HandS.ExcField
import HandS.WordsExc
import KE.KDictDisplayH
import PyProof.ReprBulk
import HandS.Zip
set_option Elab.async false
set_option linter.all false
set_option maxRecDepth 100000
set_option maxHeartbeats 2000000
/-! TB: typed data over the abstract heap, and what pure expressions evaluate to. -/
namespace TB
open PySem PySem.Spec PyProof.Rows L2

/-! ### heaps -/
/-- all that is tracked stays as it is -/
def Ex (H H' : Hp) : Prop := ∀ a o, H a = some o → H' a = some o
/-- .. but at the places of S -/
def Ch (S : List Addr) (H H' : Hp) : Prop := ∀ a o, a ∉ S → H a = some o → H' a = some o
/-- tuples stay -/
def Tu (H H' : Hp) : Prop := ∀ a xs, H a = some (.tup xs) → H' a = some (.tup xs)
theorem Ex.same {H : Hp} : Ex H H := fun _ _ h => h
theorem Ex.tr {H H1 H2 : Hp} (a : Ex H H1) (b : Ex H1 H2) : Ex H H2 := fun x o h => b x o (a x o h)
theorem Ex.tu {H H' : Hp} (e : Ex H H') : Tu H H' := fun a xs h => e a _ h
theorem Ex.ch {H H' : Hp} {S : List Addr} (e : Ex H H') : Ch S H H' := fun a o _ h => e a o h
theorem Tu.same {H : Hp} : Tu H H := fun _ _ h => h
theorem Tu.tr {H H1 H2 : Hp} (a : Tu H H1) (b : Tu H1 H2) : Tu H H2 := fun x o h => b x o (a x o h)
theorem Ch.same {S : List Addr} {H : Hp} : Ch S H H := fun _ _ _ h => h
theorem Ch.tr {S : List Addr} {H H1 H2 : Hp} (a : Ch S H H1) (b : Ch S H1 H2) : Ch S H H2 := fun x o n h => b x o n (a x o n h)
theorem Ch.ex {H H' : Hp} (e : Ch [] H H') : Ex H H' := fun a o h => e a o List.not_mem_nil h
theorem Ch.wide {S T : List Addr} {H H' : Hp} (e : Ch S H H') (h : ∀ a, a ∈ S → a ∈ T) : Ch T H H' := fun a o n q => e a o (fun z => n (h a z)) q
theorem Ex.new {H : Hp} {p : Addr} {o : HO} (h : H p = none) : Ex H (upd H p o) := fun a u e => by
  rw [upd_ne (ne_of_none e h)]
  exact e
/-- what H0 did not know may change -/
theorem Ex.mut {H0 H : Hp} {p : Addr} {o : HO} (e : Ex H0 H) (h : H0 p = none) : Ex H0 (upd H p o) := fun a u q => by
  rw [upd_ne (ne_of_none q h)]
  exact e a u q
theorem Ch.mut {S : List Addr} {H0 H : Hp} {p : Addr} {o : HO} (e : Ch S H0 H) (h : p ∈ S ∨ H0 p = none) : Ch S H0 (upd H p o) := fun a u n q => by
  have ne : a ≠ p := by
    rcases h with h | h
    · intro z
      rw [z] at n
      exact n h
    · exact ne_of_none q h
  rw [upd_ne ne]
  exact e a u n q
theorem Tu.mut {H : Hp} {p : Addr} {o : HO} (h : ∀ xs, H p ≠ some (.tup xs)) : Tu H (upd H p o) := fun a u q => by
  have ne : a ≠ p := fun z => h u (by rw [← z]; exact q)
  rw [upd_ne ne]
  exact q
theorem Tu.new {H : Hp} {p : Addr} {o : HO} (h : H p = none) : Tu H (upd H p o) := (Ex.new h).tu
theorem Tu.mutL {H : Hp} {p : Addr} {o : HO} {us : List V} (h : H p = some (.lst us)) : Tu H (upd H p o) := Tu.mut fun xs z => by
  rw [h] at z
  cases z
theorem Tu.mutT {H : Hp} {p : Addr} {o : HO} {us : List (List Key × V)} (h : H p = some (.dT us)) : Tu H (upd H p o) := Tu.mut fun xs z => by
  rw [h] at z
  cases z
theorem Tu.mutK {H : Hp} {p : Addr} {o : HO} {us : List (Key × V)} (h : H p = some (.dK us)) : Tu H (upd H p o) := Tu.mut fun xs z => by
  rw [h] at z
  cases z
theorem Ex.back {H H' : Hp} {p : Addr} (e : Ex H H') (h : H' p = none) : H p = none := by
  cases h1 : H p with
  | none => rfl
  | some o =>
    rw [e p o h1] at h
    cases h
theorem ne_new {H : Hp} {p q : Addr} {o : HO} (h : H p = some o) (n : H q = none) : p ≠ q := ne_of_none h n

/-! ### typed data made of tuples -/
abbrev Cell := Int × Int

theorem paired_map {α β : Type} {F G : α → β → Prop} {l : List α} {m : List β} (p : Paired F l m) (h : ∀ a b, F a b → G a b) : Paired G l m := by
  induction p with
  | nil => exact .nil
  | cons x _ ih => exact .cons (h _ _ x) ih
theorem paired_app {α β : Type} {F : α → β → Prop} {l l' : List α} {m m' : List β} (p : Paired F l m) (q : Paired F l' m') : Paired F (l ++ l') (m ++ m') := by
  induction p with
  | nil => exact q
  | cons x _ ih => exact .cons x ih
theorem paired_get {α β : Type} {F : α → β → Prop} {l : List α} {m : List β} (p : Paired F l m) : ∀ {i : Nat} {x : β}, m[i]? = some x → ∃ u, l[i]? = some u ∧ F u x := by
  induction p with
  | nil => intro i x h; simp at h
  | cons y _ ih =>
    intro i x h
    cases i with
    | zero =>
      simp at h
      subst h
      exact ⟨_, by simp, y⟩
    | succ i =>
      obtain ⟨u, h1, h2⟩ := ih (by simpa using h)
      exact ⟨u, by simpa using h1, h2⟩
theorem paired_getL {α β : Type} {F : α → β → Prop} {l : List α} {m : List β} (p : Paired F l m) : ∀ {i : Nat} {u : α}, l[i]? = some u → ∃ x, m[i]? = some x ∧ F u x := by
  induction p with
  | nil => intro i x h; simp at h
  | cons y _ ih =>
    intro i x h
    cases i with
    | zero =>
      simp at h
      subst h
      exact ⟨_, by simp, y⟩
    | succ i =>
      obtain ⟨u, h1, h2⟩ := ih (by simpa using h)
      exact ⟨u, by simpa using h1, h2⟩
theorem paired_take {α β : Type} {F : α → β → Prop} {l : List α} {m : List β} (p : Paired F l m) : ∀ (n : Nat), Paired F (l.take n) (m.take n) := by
  induction p with
  | nil => intro n; simp; exact .nil
  | cons y _ ih =>
    intro n
    cases n with
    | zero => exact .nil
    | succ n => exact .cons y (ih n)
theorem paired_drop {α β : Type} {F : α → β → Prop} {l : List α} {m : List β} (p : Paired F l m) : ∀ (n : Nat), Paired F (l.drop n) (m.drop n) := by
  induction p with
  | nil => intro n; simp; exact .nil
  | cons y t ih =>
    intro n
    cases n with
    | zero => exact .cons y t
    | succ n => exact ih n
theorem paired_mem {α β : Type} {F : α → β → Prop} {l : List α} {m : List β} (p : Paired F l m) : ∀ {u : α}, u ∈ l → ∃ x, x ∈ m ∧ F u x := by
  induction p with
  | nil => intro u h; simp at h
  | cons y _ ih =>
    intro u h
    rcases List.mem_cons.mp h with e | h
    · subst e
      exact ⟨_, List.mem_cons_self, y⟩
    · obtain ⟨x, h1, h2⟩ := ih h
      exact ⟨x, List.mem_cons_of_mem _ h1, h2⟩
/-- an arrangement of the values is one of the data -/
theorem paired_perm {α β : Type} {F : α → β → Prop} {l l' : List α} {m : List β} (p : Paired F l m) (q : l'.Perm l) : ∃ m', m'.Perm m ∧ Paired F l' m' := by
  induction q generalizing m with
  | nil =>
    cases p
    exact ⟨[], .nil, .nil⟩
  | @cons x a b q ih =>
    cases p with
    | cons y t =>
      obtain ⟨m', h1, h2⟩ := ih t
      exact ⟨_ :: m', h1.cons _, .cons y h2⟩
  | swap x y a =>
    cases p with
    | cons h1 t =>
      cases t with
      | cons h2 t => exact ⟨_ :: _ :: _, List.Perm.swap _ _ _, .cons h2 (.cons h1 t)⟩
  | trans q1 q2 ih1 ih2 =>
    obtain ⟨m1, a1, b1⟩ := ih2 p
    obtain ⟨m2, a2, b2⟩ := ih1 b1
    exact ⟨m2, a2.trans a1, b2⟩

/-- data that values bear: tuples all the way down -/
class Enc (α : Type) [DecidableEq α] where
  r : Hp → V → α → Prop
  mono : ∀ {H H' : Hp} {v : V} {x : α}, Tu H H' → r H v x → r H' v x
  d : α → PyData
  dp : ∀ (K : PySem.W.Frag) {H : Hp} {v : V} {x : α}, r H v x → Dp K H v (d x)
  lay : ∀ x, (d x).canLay0 = true
  dep : Nat
  dle : ∀ x, (d x).depth ≤ dep
  inj : ∀ x y, PyData.eqv (d x) (d y) = decide (x = y)

instance : Enc Int where
  r := fun _ v i => v = .int i
  mono := fun _ h => h
  d := .int
  dp := fun K {H v x} h => by
    subst h
    exact .int x
  lay := fun x => by simp [PyData.canLay0]
  dep := 0
  dle := fun x => by simp [PyData.depth]
  inj := fun x y => by
    simp only [PyData.eqv]
    rfl
instance : Enc Bool where
  r := fun _ v b => v = .bl b
  mono := fun _ h => h
  d := .bool
  dp := fun K {H v x} h => by
    subst h
    exact .bl x
  lay := fun x => by simp [PyData.canLay0]
  dep := 0
  dle := fun x => by simp [PyData.depth]
  inj := fun x y => by
    simp only [PyData.eqv]
    cases x <;> cases y <;> rfl
instance {α β : Type} [DecidableEq α] [DecidableEq β] [Enc α] [Enc β] : Enc (α × β) where
  r := fun H v x => ∃ a u w, v = .ref a ∧ H a = some (.tup [u, w]) ∧ Enc.r H u x.1 ∧ Enc.r H w x.2
  mono := fun t ⟨a, u, w, e, h, h1, h2⟩ => ⟨a, u, w, e, t _ _ h, Enc.mono t h1, Enc.mono t h2⟩
  d := fun x => .tuple [Enc.d x.1, Enc.d x.2]
  dp := fun K {H v x} ⟨a, u, w, e, h, h1, h2⟩ => by
    subst e
    exact .tup (.inl (.inl h)) (.cons (Enc.dp K h1) (.cons (Enc.dp K h2) .nil))
  lay := fun x => by simp [PyData.canLay0, PyData.canLayAll0, Enc.lay]
  dep := max (Enc.dep α) (Enc.dep β) + 1
  dle := fun x => by
    have h1 := Enc.dle x.1
    have h2 := Enc.dle x.2
    simp only [PyData.depth, PyData.depthAll]
    omega
  inj := fun x y => by
    obtain ⟨a, b⟩ := x
    obtain ⟨c, e⟩ := y
    simp only [PyData.eqv, PyData.eqvAll, Enc.inj, Bool.and_true]
    by_cases h1 : a = c
    · by_cases h2 : b = e
      · simp [h1, h2]
      · simp [h1, h2]
    · simp [h1]

theorem encs_dp {α : Type} [DecidableEq α] [Enc α] (K : PySem.W.Frag) {H : Hp} {us : List V} {xs : List α} (p : Paired (Enc.r H) us xs) : DpAll K H us (xs.map Enc.d) := by
  induction p with
  | nil => exact .nil
  | cons h _ ih => exact .cons (Enc.dp K h) ih
theorem encs_lay {α : Type} [DecidableEq α] [Enc α] : ∀ xs : List α, PyData.canLayAll0 (xs.map Enc.d) = true
  | [] => by simp [PyData.canLayAll0]
  | x :: xs => by simp [PyData.canLayAll0, Enc.lay, encs_lay xs]
theorem encs_dep {α : Type} [DecidableEq α] [Enc α] : ∀ xs : List α, PyData.depthAll (xs.map Enc.d) ≤ Enc.dep α
  | [] => by simp [PyData.depthAll]
  | x :: xs => by
    have h1 := Enc.dle x
    have h2 := encs_dep xs
    simp only [List.map_cons, PyData.depthAll]
    omega
theorem encs_inj {α : Type} [DecidableEq α] [Enc α] : ∀ xs ys : List α, PyData.eqvAll (xs.map Enc.d) (ys.map Enc.d) = decide (xs = ys)
  | [], [] => by simp [PyData.eqvAll]
  | [], y :: ys => by simp [PyData.eqvAll]
  | x :: xs, [] => by simp [PyData.eqvAll]
  | x :: xs, y :: ys => by
    simp only [List.map_cons, PyData.eqvAll, Enc.inj, encs_inj xs ys]
    by_cases h1 : x = y
    · by_cases h2 : xs = ys
      · simp [h1, h2]
      · simp [h1, h2]
    · simp [h1]
/-- a list stands for a TUPLE of data -/
instance {α : Type} [DecidableEq α] [Enc α] : Enc (List α) where
  r := fun H v xs => ∃ a us, v = .ref a ∧ H a = some (.tup us) ∧ Paired (Enc.r H) us xs
  mono := fun t ⟨a, us, e, h, p⟩ => ⟨a, us, e, t _ _ h, paired_map p fun _ _ z => Enc.mono t z⟩
  d := fun xs => .tuple (xs.map Enc.d)
  dp := fun K {H v xs} ⟨a, us, e, h, p⟩ => by
    subst e
    exact .tup (.inl (.inl h)) (encs_dp K p)
  lay := fun xs => by simp [PyData.canLay0, encs_lay]
  dep := Enc.dep α + 1
  dle := fun xs => by
    have h := encs_dep xs
    simp only [PyData.depth]
    omega
  inj := fun xs ys => by simp only [PyData.eqv, encs_inj]

abbrev En {α : Type} [DecidableEq α] [Enc α] (H : Hp) (v : V) (x : α) : Prop := Enc.r H v x
theorem en_up {α : Type} [DecidableEq α] [Enc α] {H H' : Hp} {v : V} {x : α} (e : Ex H H') (h : En H v x) : En H' v x := Enc.mono e.tu h
theorem shaped_en {α : Type} [DecidableEq α] [Enc α] (x : α) (h : Enc.dep α ≤ 64) : SeqAt.shaped (Enc.d x) = true := by
  have := Enc.dle x
  show ((Enc.d x).canLay0 && decide ((Enc.d x).depth ≤ 64)) = true
  rw [Bool.and_eq_true]
  exact ⟨Enc.lay x, decide_eq_true (by omega)⟩
theorem shaped_ens {α : Type} [DecidableEq α] [Enc α] (xs : List α) (h : Enc.dep α + 1 ≤ 64) : SeqAt.shaped (.list (xs.map Enc.d)) = true := by
  have h1 := encs_dep xs
  show (PyData.canLay0 (.list (xs.map Enc.d)) && decide (PyData.depth (.list (xs.map Enc.d)) ≤ 64)) = true
  rw [Bool.and_eq_true]
  refine ⟨by simp only [PyData.canLay0]; exact encs_lay xs, decide_eq_true ?_⟩
  simp only [PyData.depth]
  omega

/-- a list of data at p -/
def Ls {α : Type} [DecidableEq α] [Enc α] (H : Hp) (p : Addr) (xs : List α) : Prop := ∃ us, H p = some (.lst us) ∧ Paired (Enc.r H) us xs
theorem Ls.up {α : Type} [DecidableEq α] [Enc α] {H H' : Hp} {p : Addr} {xs : List α} (h : Ls H p xs) (e : Ex H H') : Ls H' p xs := by
  obtain ⟨us, h1, h2⟩ := h
  exact ⟨us, e _ _ h1, paired_map h2 fun _ _ z => en_up e z⟩
theorem Ls.upd {α : Type} [DecidableEq α] [Enc α] {H : Hp} {p q : Addr} {o : HO} {xs : List α} (h : Ls H p xs) (n : p ≠ q) (t : Tu H (upd H q o)) : Ls (upd H q o) p xs := by
  obtain ⟨us, h1, h2⟩ := h
  exact ⟨us, by rw [upd_ne n]; exact h1, paired_map h2 fun _ _ z => Enc.mono t z⟩
theorem Ls.ch {α : Type} [DecidableEq α] [Enc α] {S : List Addr} {H H' : Hp} {p : Addr} {xs : List α} (h : Ls H p xs) (n : p ∉ S) (c : Ch S H H') (t : Tu H H') : Ls H' p xs := by
  obtain ⟨us, h1, h2⟩ := h
  exact ⟨us, c _ _ n h1, paired_map h2 fun _ _ z => Enc.mono t z⟩
end TB
set_option Elab.async false
set_option linter.all false
set_option maxRecDepth 100000
set_option maxHeartbeats 2000000
/-! TE: what pure expressions evaluate to. -/
namespace TB
open PySem PySem.Spec PyProof.Rows L2

structure Pd where
  p : Hp → V → Prop
  up : ∀ {H H' : Hp} {v : V}, Ex H H' → p H v → p H' v
def en {α : Type} [DecidableEq α] [Enc α] (x : α) : Pd := ⟨fun H v => En H v x, fun e h => en_up e h⟩
def va (v : V) : Pd := ⟨fun _ w => w = v, fun _ h => h⟩
def nn : Pd := va .non
def li {α : Type} [DecidableEq α] [Enc α] (xs : List α) : Pd := ⟨fun H v => ∃ p, v = .ref p ∧ Ls H p xs, fun e ⟨p, h1, h2⟩ => ⟨p, h1, h2.up e⟩⟩
/-- the list at p -/
def la {α : Type} [DecidableEq α] [Enc α] (p : Addr) (xs : List α) : Pd := ⟨fun H v => v = .ref p ∧ Ls H p xs, fun e ⟨h1, h2⟩ => ⟨h1, h2.up e⟩⟩
/-- the dict at p -/
def dt (p : Addr) (kvs : List (List Key × V)) : Pd := ⟨fun H v => v = .ref p ∧ H p = some (.dT kvs), fun e ⟨h1, h2⟩ => ⟨h1, e _ _ h2⟩⟩

abbrev TSt := List (Option V)
def EvP (te : TE) (s : TSt) (H : Hp) (P : Pd) : Prop := ∀ H1, Ex H H1 → ∀ Q : VK, (∀ v H2, Ex H1 H2 → P.p H2 v → Q v H2) → te s H1 Q
def EvB (tt : TT) (s : TSt) (H : Hp) (b : Bool) : Prop := ∀ H1, Ex H H1 → ∀ Q : Bool → Hp → Prop, (∀ H2, Ex H1 H2 → Q b H2) → tt s H1 Q
def AllP (H : Hp) (vs : List V) (Ps : List Pd) : Prop := Paired (fun v (P : Pd) => P.p H v) vs Ps
def EvA (ta : TA) (s : TSt) (H : Hp) (Ps : List Pd) : Prop := ∀ H1, Ex H H1 → ∀ Q : List V → Hp → Prop, (∀ vs H2, Ex H1 H2 → AllP H2 vs Ps → Q vs H2) → ta s H1 Q
/-- a new list of data -/
def EvN {α : Type} [DecidableEq α] [Enc α] (te : TE) (s : TSt) (H : Hp) (xs : List α) : Prop :=
  ∀ H1, Ex H H1 → ∀ Q : VK, (∀ p H2, H1 p = none → Ex H1 H2 → Ls H2 p xs → Q (.ref p) H2) → te s H1 Q
def EvO (to : TO) (s : TSt) (H : Hp) (o : Option Int) : Prop := ∀ H1, Ex H H1 → ∀ Q : Option Int → Hp → Prop, (∀ H2, Ex H1 H2 → Q o H2) → to s H1 Q

section
variable {K : PySem.W.Frag} {s : TSt} {H H' : Hp} {ta tb te : TE} {t u : TT} {α β : Type} [DecidableEq α] [Enc α] [DecidableEq β] [Enc β] {P P' : Pd}

theorem AllP.up {vs : List V} {Ps : List Pd} (e : Ex H H') (h : AllP H vs Ps) : AllP H' vs Ps := paired_map h fun _ P z => P.up e z
theorem EvP.up (e : Ex H H') (h : EvP te s H P) : EvP te s H' P := fun H1 a Q q => h H1 (e.tr a) Q q
theorem EvB.up {b : Bool} (e : Ex H H') (h : EvB t s H b) : EvB t s H' b := fun H1 a Q q => h H1 (e.tr a) Q q
theorem EvN.up {xs : List α} (e : Ex H H') (h : EvN te s H xs) : EvN te s H' xs := fun H1 a Q q => h H1 (e.tr a) Q q
theorem EvP.to (h : EvP te s H P) (w : ∀ H v, P.p H v → P'.p H v) : EvP te s H P' := fun H1 e Q q => h H1 e Q fun v H2 e2 hv => q v H2 e2 (w _ _ hv)
theorem EvP.is {x y : α} (h : EvP te s H (en x)) (e : x = y) : EvP te s H (en y) := e ▸ h
theorem EvB.is {x y : Bool} (h : EvB t s H x) (e : x = y) : EvB t s H y := e ▸ h
theorem EvN.is {xs ys : List α} (h : EvN te s H xs) (e : xs = ys) : EvN te s H ys := e ▸ h
theorem EvN.li {xs : List α} (h : EvN te s H xs) : EvP te s H (li xs) := fun H1 e Q q => h H1 e Q fun p H2 _ e2 hl => q _ H2 e2 ⟨p, rfl, hl⟩

/-! names, constants -/
theorem ev_var {i : Nat} {v : V} (h : s[i]? = some (some v)) (hp : P.p H v) : EvP (tVar i) s H P := fun H1 e Q q => ⟨v, h, q v H1 Ex.same (P.up e hp)⟩
theorem ev_int {i : Int} : EvP (tC (.int i)) s H (en i) := fun H1 _ _ q => q _ H1 Ex.same rfl
theorem ev_bl {b : Bool} : EvP (tC (.bl b)) s H (en b) := fun H1 _ _ q => q _ H1 Ex.same rfl
theorem ev_non : EvP (tC .non) s H nn := fun H1 _ _ q => q _ H1 Ex.same rfl
theorem ev_va {v : V} : EvP (tC v) s H (va v) := fun H1 _ _ q => q _ H1 Ex.same rfl

/-! numbers -/
theorem ev_I {g : Int → Int → Int} {i j : Int} (ha : EvP ta s H (en i)) (hb : EvP tb s H (en j)) : EvP (tOp (rI0 fun i j => .int (g i j)) ta tb) s H (en (g i j)) := fun H1 e Q q =>
  ha H1 e _ fun v H2 e2 hv => hb H2 (e.tr e2) _ fun w H3 e3 hw => ⟨i, j, hv, hw, q _ H3 (e2.tr e3) rfl⟩
theorem ev_Ic {C : Int → Int → Prop} {g : Int → Int → Int} {i j : Int} (ha : EvP ta s H (en i)) (hb : EvP tb s H (en j)) (hc : C i j) : EvP (tOp (rI C fun i j => .int (g i j)) ta tb) s H (en (g i j)) := fun H1 e Q q =>
  ha H1 e _ fun v H2 e2 hv => hb H2 (e.tr e2) _ fun w H3 e3 hw => ⟨i, j, hv, hw, hc, q _ H3 (e2.tr e3) rfl⟩
theorem ev_C {g : Int → Int → Bool} {i j : Int} (ha : EvP ta s H (en i)) (hb : EvP tb s H (en j)) : EvP (tOp (rI0 fun i j => .bl (g i j)) ta tb) s H (en (g i j)) := fun H1 e Q q =>
  ha H1 e _ fun v H2 e2 hv => hb H2 (e.tr e2) _ fun w H3 e3 hw => ⟨i, j, hv, hw, q _ H3 (e2.tr e3) rfl⟩
theorem ev_neg {i : Int} (ha : EvP ta s H (en i)) : EvP (tUn (rU fun i => .int (-i)) ta) s H (en (-i)) := fun H1 e Q q =>
  ha H1 e _ fun v H2 e2 hv => ⟨i, hv, q _ H2 e2 rfl⟩
theorem dec_V_int {i j : Int} : decide (V.int i = V.int j) = decide (i = j) := by
  by_cases h : i = j
  · subst h
    simp
  · rw [decide_eq_false h, decide_eq_false fun z => h (V.int.inj z)]
theorem dec_V_bl {i j : Bool} : decide (V.bl i = V.bl j) = decide (i = j) := by
  by_cases h : i = j
  · subst h
    simp
  · rw [decide_eq_false h, decide_eq_false fun z => h (V.bl.inj z)]
theorem ev_eqI {i j : Int} (ha : EvP ta s H (en i)) (hb : EvP tb s H (en j)) : EvP (tOp rEq ta tb) s H (en (decide (i = j))) := fun H1 e Q q =>
  ha H1 e _ fun v H2 e2 hv => hb H2 (e.tr e2) _ fun w H3 e3 hw => by
    obtain rfl : v = .int i := hv
    obtain rfl : w = .int j := hw
    exact ⟨rfl, q _ H3 (e2.tr e3) (by rw [dec_V_int]; exact rfl)⟩
theorem ev_neI {i j : Int} (ha : EvP ta s H (en i)) (hb : EvP tb s H (en j)) : EvP (tOp rNe ta tb) s H (en (!decide (i = j))) := fun H1 e Q q =>
  ha H1 e _ fun v H2 e2 hv => hb H2 (e.tr e2) _ fun w H3 e3 hw => by
    obtain rfl : v = .int i := hv
    obtain rfl : w = .int j := hw
    exact ⟨rfl, q _ H3 (e2.tr e3) (by rw [dec_V_int]; exact rfl)⟩
theorem ev_eqB {i j : Bool} (ha : EvP ta s H (en i)) (hb : EvP tb s H (en j)) : EvP (tOp rEq ta tb) s H (en (decide (i = j))) := fun H1 e Q q =>
  ha H1 e _ fun v H2 e2 hv => hb H2 (e.tr e2) _ fun w H3 e3 hw => by
    obtain rfl : v = .bl i := hv
    obtain rfl : w = .bl j := hw
    exact ⟨rfl, q _ H3 (e2.tr e3) (by rw [dec_V_bl]; exact rfl)⟩
theorem ev_neB {i j : Bool} (ha : EvP ta s H (en i)) (hb : EvP tb s H (en j)) : EvP (tOp rNe ta tb) s H (en (!decide (i = j))) := fun H1 e Q q =>
  ha H1 e _ fun v H2 e2 hv => hb H2 (e.tr e2) _ fun w H3 e3 hw => by
    obtain rfl : v = .bl i := hv
    obtain rfl : w = .bl j := hw
    exact ⟨rfl, q _ H3 (e2.tr e3) (by rw [dec_V_bl]; exact rfl)⟩

/-! data -/
theorem ev_eqE {x y : α} (ha : EvP ta s H (en x)) (hb : EvP tb s H (en y)) (hd : Enc.dep α ≤ 64 := by decide) : EvP (tOp (rEqD K) ta tb) s H (en (decide (x = y))) := fun H1 e Q q =>
  ha H1 e _ fun v H2 e2 hv => hb H2 (e.tr e2) _ fun w H3 e3 hw => ⟨_, _, Enc.dp K (en_up e3 hv), Enc.dp K hw, shaped_en x hd, shaped_en y hd, q _ H3 (e2.tr e3) (by rw [Enc.inj]; exact rfl)⟩
theorem ev_neE {x y : α} (ha : EvP ta s H (en x)) (hb : EvP tb s H (en y)) (hd : Enc.dep α ≤ 64 := by decide) : EvP (tOp (rNeD K) ta tb) s H (en (!decide (x = y))) := fun H1 e Q q =>
  ha H1 e _ fun v H2 e2 hv => hb H2 (e.tr e2) _ fun w H3 e3 hw => ⟨_, _, Enc.dp K (en_up e3 hv), Enc.dp K hw, shaped_en x hd, shaped_en y hd, q _ H3 (e2.tr e3) (by rw [Enc.inj]; exact rfl)⟩
theorem dp_li {xs : List α} {v : V} (h : (li xs).p H v) : Dp K H v (.list (xs.map Enc.d)) := by
  obtain ⟨p, rfl, us, h1, h2⟩ := h
  exact .lst (.inl (.inl h1)) (encs_dp K h2)
theorem eqv_lists (xs ys : List α) : PyData.eqv (.list (xs.map Enc.d)) (.list (ys.map Enc.d)) = decide (xs = ys) := by simp only [PyData.eqv, encs_inj]
theorem ev_eqL {xs ys : List α} (ha : EvP ta s H (li xs)) (hb : EvP tb s H (li ys)) (hd : Enc.dep α + 1 ≤ 64 := by decide) : EvP (tOp (rEqD K) ta tb) s H (en (decide (xs = ys))) := fun H1 e Q q =>
  ha H1 e _ fun v H2 e2 hv => hb H2 (e.tr e2) _ fun w H3 e3 hw => ⟨_, _, dp_li ((li xs).up e3 hv), dp_li hw, shaped_ens xs hd, shaped_ens ys hd, q _ H3 (e2.tr e3) (by rw [eqv_lists]; exact rfl)⟩
theorem ev_neL {xs ys : List α} (ha : EvP ta s H (li xs)) (hb : EvP tb s H (li ys)) (hd : Enc.dep α + 1 ≤ 64 := by decide) : EvP (tOp (rNeD K) ta tb) s H (en (!decide (xs = ys))) := fun H1 e Q q =>
  ha H1 e _ fun v H2 e2 hv => hb H2 (e.tr e2) _ fun w H3 e3 hw => ⟨_, _, dp_li ((li xs).up e3 hv), dp_li hw, shaped_ens xs hd, shaped_ens ys hd, q _ H3 (e2.tr e3) (by rw [eqv_lists]; exact rfl)⟩
theorem any_eqv (x : α) : ∀ xs : List α, ((xs.map Enc.d).any fun z => PyData.eqv z (Enc.d x)) = decide (x ∈ xs)
  | [] => by simp
  | y :: ys => by
    rw [List.map_cons, List.any_cons, any_eqv x ys, Enc.inj]
    by_cases h : y = x
    · simp [h]
    · have h2 : ¬ x = y := fun z => h z.symm
      simp [h, h2]
theorem ev_inL {x : α} {xs : List α} (ha : EvP ta s H (en x)) (hb : EvP tb s H (li xs)) (hd : Enc.dep α + 1 ≤ 64 := by decide) : EvP (tOp (rInD K) ta tb) s H (en (decide (x ∈ xs))) := fun H1 e Q q =>
  ha H1 e _ fun v H2 e2 hv => hb H2 (e.tr e2) _ fun w H3 e3 hw => ⟨_, _, Enc.dp K (en_up e3 hv), dp_li hw, shaped_en x (by omega), shaped_ens xs hd, q _ H3 (e2.tr e3) (by rw [any_eqv]; exact rfl)⟩
theorem ev_niL {x : α} {xs : List α} (ha : EvP ta s H (en x)) (hb : EvP tb s H (li xs)) (hd : Enc.dep α + 1 ≤ 64 := by decide) : EvP (tOp (rNotInD K) ta tb) s H (en (!decide (x ∈ xs))) := fun H1 e Q q =>
  ha H1 e _ fun v H2 e2 hv => hb H2 (e.tr e2) _ fun w H3 e3 hw => ⟨_, _, Enc.dp K (en_up e3 hv), dp_li hw, shaped_en x (by omega), shaped_ens xs hd, q _ H3 (e2.tr e3) (by rw [any_eqv]; exact rfl)⟩

/-! a place of a tuple, of a list -/
theorem ev_ixL {xs : List α} {i : Int} {x : α} (ha : EvP ta s H (li xs)) (hb : EvP tb s H (en i)) (h : atI xs i = some x) : EvP (tOp (rIxL K) ta tb) s H (en x) := fun H1 e Q q =>
  ha H1 e _ fun v H2 e2 hv => hb H2 (e.tr e2) _ fun w H3 e3 hw => by
    obtain ⟨p, rfl, us, h1, h2⟩ := (li xs).up e3 hv
    unfold atI at h
    cases hj : ixN xs.length i with
    | none =>
      rw [hj] at h
      cases h
    | some j =>
      rw [hj] at h
      obtain ⟨u, g1, g2⟩ := paired_get h2 h
      refine ⟨p, us, i, u, rfl, hw, .inl (.inl h1), ?_, q _ H3 (e2.tr e3) g2⟩
      unfold atI
      rw [h2.length, hj]
      exact g1
theorem ev_ixT {xs : List α} {i : Int} {x : α} (ha : EvP ta s H (en xs)) (hb : EvP tb s H (en i)) (h : atI xs i = some x) : EvP (tOp (rIxT K) ta tb) s H (en x) := fun H1 e Q q =>
  ha H1 e _ fun v H2 e2 hv => hb H2 (e.tr e2) _ fun w H3 e3 hw => by
    obtain ⟨p, us, rfl, h1, h2⟩ := en_up e3 hv
    unfold atI at h
    cases hj : ixN xs.length i with
    | none =>
      rw [hj] at h
      cases h
    | some j =>
      rw [hj] at h
      obtain ⟨u, g1, g2⟩ := paired_get h2 h
      refine ⟨p, us, i, u, rfl, hw, .inl (.inl h1), ?_, q _ H3 (e2.tr e3) g2⟩
      unfold atI
      rw [h2.length, hj]
      exact g1
theorem ev_fst {x : α × β} (ha : EvP ta s H (en x)) : EvP (tOp (rIxT K) ta (tC (.int 0))) s H (en x.1) := fun H1 e Q q =>
  ha H1 e _ fun v H2 e2 hv => by
    obtain ⟨p, u, w, rfl, h1, h2, h3⟩ := hv
    exact ⟨p, [u, w], 0, u, rfl, rfl, .inl (.inl h1), rfl, q _ H2 e2 h2⟩
theorem ev_snd {x : α × β} (ha : EvP ta s H (en x)) : EvP (tOp (rIxT K) ta (tC (.int 1))) s H (en x.2) := fun H1 e Q q =>
  ha H1 e _ fun v H2 e2 hv => by
    obtain ⟨p, u, w, rfl, h1, h2, h3⟩ := hv
    exact ⟨p, [u, w], 1, w, rfl, rfl, .inl (.inl h1), rfl, q _ H2 e2 h3⟩

/-! arguments, displays -/
theorem ea_nil : EvA tNil s H [] := fun H1 _ _ q => q _ H1 Ex.same .nil
theorem ea_cons {tr : TA} {Ps : List Pd} (h : EvP te s H P) (hr : EvA tr s H Ps) : EvA (tCons te tr) s H (P :: Ps) := fun H1 e Q q =>
  h H1 e _ fun v H2 e2 hv => hr H2 (e.tr e2) _ fun vs H3 e3 hvs => q _ H3 (e2.tr e3) (.cons (P.up e3 hv) hvs)
theorem ev_pair {x : α} {y : β} (ha : EvP ta s H (en x)) (hb : EvP tb s H (en y)) : EvP (tTup (tCons ta (tCons tb tNil))) s H (en (x, y)) := fun H1 e Q q =>
  ha H1 e _ fun v H2 e2 hv => hb H2 (e.tr e2) _ fun w H3 e3 hw => ⟨by show 2 ≤ sizeLine; decide, fun p hp =>
    q _ _ ((e2.tr e3).tr (Ex.new hp)) ⟨p, v, w, rfl, upd_same, en_up (e3.tr (Ex.new hp)) hv, en_up (Ex.new hp) hw⟩⟩
theorem allp_en : ∀ {vs : List V} {xs : List α}, AllP H vs (xs.map en) → Paired (Enc.r H) vs xs
  | _, [], h => by
    cases h
    exact .nil
  | _, x :: xs, h => by
    cases h with
    | cons a b => exact .cons a (allp_en b)
theorem sz_of {n : Nat} (h : n ≤ 1000000) : n ≤ sizeLine := Nat.le_trans h (by decide)
theorem sz_lt {n : Nat} (h : n ≤ 1000000) : n < sizeLine := Nat.lt_of_le_of_lt h (by decide)
/-- a tuple of things alike -/
theorem ev_tup {tr : TA} {xs : List α} (h : EvA tr s H (xs.map en)) (hl : xs.length ≤ 1000000 := by first | decide | exact Nat.le_of_ble_eq_true rfl) : EvP (tTup tr) s H (en xs) := fun H1 e Q q =>
  h H1 e _ fun vs H2 e2 hvs => by
    have hv := allp_en hvs
    exact ⟨by rw [hv.length]; exact sz_of hl, fun p hp => q _ _ (e2.tr (Ex.new hp)) ⟨p, vs, rfl, upd_same, paired_map hv fun _ _ z => en_up (Ex.new hp) z⟩⟩
theorem en_lst {tr : TA} {xs : List α} (h : EvA tr s H (xs.map en)) (hl : xs.length ≤ 1000000 := by first | decide | exact Nat.le_of_ble_eq_true rfl) : EvN (tLst tr) s H xs := fun H1 e Q q =>
  h H1 e _ fun vs H2 e2 hvs => by
    have hv := allp_en hvs
    exact ⟨by rw [hv.length]; exact sz_of hl, fun p hp => q _ _ (e2.back hp) (e2.tr (Ex.new hp)) ⟨vs, upd_same, paired_map hv fun _ _ z => en_up (Ex.new hp) z⟩⟩

/-! built-in functions -/
theorem ev_len {xs : List α} {r : List V → Hp → VK → Prop} (hr : r = fun xs H Q => ∃ p ys, xs = [V.ref p] ∧ (SqL K H p ys ∨ SqT K H p ys) ∧ Q (.int ys.length) H) (ha : EvP ta s H (li xs)) : EvP (tCB r (tCons ta tNil)) s H (en (xs.length : Int)) := fun H1 e Q q =>
  ha H1 e _ fun v H2 e2 hv => by
    obtain ⟨p, rfl, us, h1, h2⟩ := hv
    subst hr
    exact ⟨p, us, rfl, .inl (.inl (.inl h1)), q _ H2 e2 (by rw [h2.length]; exact rfl)⟩
theorem ev_lenT {xs : List α} {r : List V → Hp → VK → Prop} (hr : r = fun xs H Q => ∃ p ys, xs = [V.ref p] ∧ (SqL K H p ys ∨ SqT K H p ys) ∧ Q (.int ys.length) H) (ha : EvP ta s H (en xs)) : EvP (tCB r (tCons ta tNil)) s H (en (xs.length : Int)) := fun H1 e Q q =>
  ha H1 e _ fun v H2 e2 hv => by
    obtain ⟨p, us, rfl, h1, h2⟩ := hv
    subst hr
    exact ⟨p, us, rfl, .inr (.inl (.inl h1)), q _ H2 e2 (by rw [h2.length]; exact rfl)⟩

/-! tests -/
theorem eb_test {b : Bool} (h : EvP te s H (en b)) : EvB (tTest te) s H b := fun H1 e _ q => h H1 e _ fun v H2 e2 hv => ⟨b, hv, q H2 e2⟩
theorem eb_B {b : Bool} (h : EvP te s H (en b)) : EvB (tB te) s H b := fun H1 e _ q => h H1 e _ fun v H2 e2 hv => ⟨b, hv, q H2 e2⟩
theorem eb_and {a b : Bool} (h1 : EvB t s H a) (h2 : a = true → EvB u s H b) : EvB (tAnd t u) s H (a && b) := fun H1 e Q q => h1 H1 e _ fun H2 e2 => by
  cases a with
  | true =>
    show u s H2 Q
    exact h2 rfl H2 (e.tr e2) Q fun H3 e3 => q H3 (e2.tr e3)
  | false =>
    show Q false H2
    exact q H2 e2
theorem eb_or {a b : Bool} (h1 : EvB t s H a) (h2 : a = false → EvB u s H b) : EvB (tOr t u) s H (a || b) := fun H1 e Q q => h1 H1 e _ fun H2 e2 => by
  cases a with
  | true =>
    show Q true H2
    exact q H2 e2
  | false =>
    show u s H2 Q
    exact h2 rfl H2 (e.tr e2) Q fun H3 e3 => q H3 (e2.tr e3)
theorem eb_not {a : Bool} (h1 : EvB t s H a) : EvB (tNot t) s H (!a) := fun H1 e _ q => h1 H1 e _ fun H2 e2 => q H2 e2
theorem eb_yes : EvB tYes s H true := fun H1 e Q q => q H1 Ex.same
theorem ev_andV {a b : Bool} (h1 : EvP ta s H (en a)) (h2 : a = true → EvP tb s H (en b)) : EvP (tAndV ta tb) s H (en (a && b)) := fun H1 e Q q => h1 H1 e _ fun v H2 e2 hv => ⟨a, hv, by
  cases a with
  | true =>
    show tb s H2 Q
    exact h2 rfl H2 (e.tr e2) Q fun v H3 e3 => q v H3 (e2.tr e3)
  | false =>
    show Q (.bl false) H2
    exact q _ H2 e2 rfl⟩
theorem ev_orV {a b : Bool} (h1 : EvP ta s H (en a)) (h2 : a = false → EvP tb s H (en b)) : EvP (tOrV ta tb) s H (en (a || b)) := fun H1 e Q q => h1 H1 e _ fun v H2 e2 hv => ⟨a, hv, by
  cases a with
  | true =>
    show Q (.bl true) H2
    exact q _ H2 e2 rfl
  | false =>
    show tb s H2 Q
    exact h2 rfl H2 (e.tr e2) Q fun v H3 e3 => q v H3 (e2.tr e3)⟩
theorem ev_notV {a : Bool} (h1 : EvP ta s H (en a)) : EvP (tNotV ta) s H (en (!a)) := fun H1 e _ q => h1 H1 e _ fun v H2 e2 hv => ⟨a, hv, q _ H2 e2 rfl⟩
theorem ev_if {b : Bool} (h : EvB t s H b) (h1 : b = true → EvP ta s H P) (h2 : b = false → EvP tb s H P) : EvP (tIf t ta tb) s H P := fun H1 e Q q => h H1 e _ fun H2 e2 => by
  cases b with
  | true =>
    show ta s H2 Q
    exact h1 rfl H2 (e.tr e2) Q fun v H3 e3 => q v H3 (e2.tr e3)
  | false =>
    show tb s H2 Q
    exact h2 rfl H2 (e.tr e2) Q fun v H3 e3 => q v H3 (e2.tr e3)

/-! slices, sums of lists -/
theorem eo_none : EvO tNoPart s H none := fun H1 _ _ q => q H1 Ex.same
theorem eo_some {i : Int} (h : EvP te s H (en i)) : EvO (tPart te) s H (some i) := fun H1 e _ q => h H1 e _ fun v H2 e2 hv => ⟨i, hv, q H2 e2⟩
def cut (xs : List α) (lo hi : Option Int) : List α := (xs.drop (HT.sIx xs.length 0 lo)).take (HT.sIx xs.length xs.length hi - HT.sIx xs.length 0 lo)
theorem paired_cut {us : List V} {xs : List α} (p : Paired (Enc.r H) us xs) (lo hi : Option Int) : Paired (Enc.r H) (cutV us lo hi) (cut xs lo hi) := by
  unfold cutV cut
  rw [p.length]
  exact paired_take (paired_drop p _) _
theorem en_slice {tl th : TO} {xs : List α} {lo hi : Option Int} (h : EvP te s H (li xs)) (h1 : EvO tl s H lo) (h2 : EvO th s H hi) : EvN (tSl (rSlL K) te tl th) s H (cut xs lo hi) := fun H1 e _ q =>
  h H1 e _ fun v H2 e2 hv => h1 H2 (e.tr e2) _ fun H3 e3 => h2 H3 ((e.tr e2).tr e3) _ fun H4 e4 => by
    obtain ⟨p, rfl, us, g1, g2⟩ := (li xs).up (e3.tr e4) hv
    exact ⟨p, us, rfl, .inl (.inl g1), fun z hz => q z _ (((e2.tr e3).tr e4).back hz) (((e2.tr e3).tr e4).tr (Ex.new hz)) ⟨_, upd_same, paired_map (paired_cut g2 lo hi) fun _ _ w => en_up (Ex.new hz) w⟩⟩
theorem en_cat {xs ys : List α} (ha : EvP ta s H (li xs)) (hb : EvP tb s H (li ys)) (hl : xs.length + ys.length ≤ 1000000) : EvN (tOp rCat ta tb) s H (xs ++ ys) := fun H1 e Q q =>
  ha H1 e _ fun v H2 e2 hv => hb H2 (e.tr e2) _ fun w H3 e3 hw => by
    obtain ⟨p, rfl, us, g1, g2⟩ := (li xs).up e3 hv
    obtain ⟨p', rfl, us', g1', g2'⟩ := hw
    exact ⟨p, p', us, us', rfl, rfl, g1, g1', by rw [g2.length, g2'.length]; exact sz_of hl, fun z hz => q z _ ((e2.tr e3).back hz) ((e2.tr e3).tr (Ex.new hz)) ⟨_, upd_same, paired_map (paired_app g2 g2') fun _ _ w => en_up (Ex.new hz) w⟩⟩
theorem ev_catT {xs ys : List α} (ha : EvP ta s H (en xs)) (hb : EvP tb s H (en ys)) (hl : xs.length + ys.length ≤ 1000000) : EvP (tOp (rCatA K) ta tb) s H (en (xs ++ ys)) := fun H1 e Q q =>
  ha H1 e _ fun v H2 e2 hv => hb H2 (e.tr e2) _ fun w H3 e3 hw => by
    obtain ⟨p, us, rfl, g1, g2⟩ := en_up e3 hv
    obtain ⟨p', us', rfl, g1', g2'⟩ := hw
    refine ⟨p, p', us, us', rfl, rfl, .inl (.inl g1), .inl (.inl g1'), by rw [g2.length, g2'.length]; exact sz_of hl, fun hn => ?_, fun _ hn => ?_, fun _ _ z hz => ?_⟩
    · subst hn
      cases g2
      exact q _ H3 (e2.tr e3) ⟨p', us', rfl, g1', g2'⟩
    · subst hn
      cases g2'
      exact q _ H3 (e2.tr e3) (by rw [List.append_nil]; exact ⟨p, us, rfl, g1, g2⟩)
    · exact q _ _ ((e2.tr e3).tr (Ex.new hz)) ⟨z, _, rfl, upd_same, paired_map (paired_app g2 g2') fun _ _ w => en_up (Ex.new hz) w⟩

/-! tuple(..), list(..) -/
theorem ev_tupleL {xs : List α} {r : List V → Hp → VK → Prop} (hr : r = fun xs H Q => ∃ p ys, xs = [V.ref p] ∧ ((SqL K H p ys ∧ ∀ l, H l = none → Q (.ref l) (upd H l (.tup ys))) ∨ (SqT K H p ys ∧ Q (.ref p) H))) (ha : EvP ta s H (li xs)) :
    EvP (tCB r (tCons ta tNil)) s H (en xs) := fun H1 e Q q =>
  ha H1 e _ fun v H2 e2 hv => by
    obtain ⟨p, rfl, us, h1, h2⟩ := hv
    subst hr
    exact ⟨p, us, rfl, .inl ⟨.inl (.inl h1), fun z hz => q _ _ (e2.tr (Ex.new hz)) ⟨z, us, rfl, upd_same, paired_map h2 fun _ _ w => en_up (Ex.new hz) w⟩⟩⟩
theorem en_listT {xs : List α} {r : List V → Hp → VK → Prop} (hr : r = fun xs H Q => ∃ p ys, xs = [V.ref p] ∧ (SqL K H p ys ∨ SqT K H p ys) ∧ ∀ l, H l = none → Q (.ref l) (upd H l (.lst ys))) (ha : EvP ta s H (en xs)) :
    EvN (tCB r (tCons ta tNil)) s H xs := fun H1 e Q q =>
  ha H1 e _ fun v H2 e2 hv => by
    obtain ⟨p, us, rfl, h1, h2⟩ := hv
    subst hr
    exact ⟨p, us, rfl, .inr (.inl (.inl h1)), fun z hz => q _ _ (e2.back hz) (e2.tr (Ex.new hz)) ⟨us, upd_same, paired_map h2 fun _ _ w => en_up (Ex.new hz) w⟩⟩
theorem en_listL {xs : List α} {r : List V → Hp → VK → Prop} (hr : r = fun xs H Q => ∃ p ys, xs = [V.ref p] ∧ (SqL K H p ys ∨ SqT K H p ys) ∧ ∀ l, H l = none → Q (.ref l) (upd H l (.lst ys))) (ha : EvP ta s H (li xs)) :
    EvN (tCB r (tCons ta tNil)) s H xs := fun H1 e Q q =>
  ha H1 e _ fun v H2 e2 hv => by
    obtain ⟨p, rfl, us, h1, h2⟩ := hv
    subst hr
    exact ⟨p, us, rfl, .inl (.inl (.inl h1)), fun z hz => q _ _ (e2.back hz) (e2.tr (Ex.new hz)) ⟨us, upd_same, paired_map h2 fun _ _ w => en_up (Ex.new hz) w⟩⟩

/-! calls of defs that change nothing -/
/-- a promise: from arguments as told to a result as told -/
def SpP (A : List Pd → Pd → Prop) : Sp := fun vs H Q _ => ∃ Ps P, A Ps P ∧ AllP H vs Ps ∧ ∀ v H', Ex H H' → P.p H' v → Q v H'
theorem ev_call {A : List Pd → Pd → Prop} {Ps : List Pd} {E : XK} {tr : TA} (h : EvA tr s H Ps) (hA : A Ps P) : EvP (tCall (SpP A) [] E tr) s H P := fun H1 e Q q =>
  h H1 e _ fun vs H2 e2 hvs => ⟨Ps, P, hA, by rw [List.append_nil]; exact hvs, fun v H' e3 hv => q v H' (e2.tr e3) hv⟩

/-! statements -/
variable {D : Ends} {tu tw : TS}
theorem s_asg {i : Nat} (h : EvP te s H P) (k : ∀ v H1, Ex H H1 → P.p H1 v → D.nx (s.set i (some v)) H1) : tAsg te (gName i) D s H := h H Ex.same _ k
theorem s_asgN {i : Nat} {xs : List α} (h : EvN te s H xs) (k : ∀ p H1, H p = none → Ex H H1 → Ls H1 p xs → D.nx (s.set i (some (.ref p))) H1) : tAsg te (gName i) D s H := h H Ex.same _ k
theorem s_ret (h : EvP te s H P) (k : ∀ v H1, Ex H H1 → P.p H1 v → D.rt v H1) : tRet te D s H := h H Ex.same _ k
theorem s_retN {xs : List α} (h : EvN te s H xs) (k : ∀ p H1, H p = none → Ex H H1 → Ls H1 p xs → D.rt (.ref p) H1) : tRet te D s H := h H Ex.same _ k
theorem s_drop (h : EvP te s H P) (k : ∀ H1, Ex H H1 → D.nx s H1) : tDrop te D s H := h H Ex.same _ fun _ H1 e _ => k H1 e
theorem s_if {b : Bool} (h : EvB t s H b) (h1 : b = true → ∀ H1, Ex H H1 → tu D s H1) (h2 : b = false → ∀ H1, Ex H H1 → tw D s H1) : tIfS t tu tw D s H := h H Ex.same _ fun H1 e => by
  cases b with
  | true =>
    show tu D s H1
    exact h1 rfl H1 e
  | false =>
    show tw D s H1
    exact h2 rfl H1 e
/-- a, b = e1, e2 -/
theorem s_par {i j : Nat} {tr : TA} {P1 P2 : Pd} (h : EvA tr s H [P1, P2]) (k : ∀ v w H1, Ex H H1 → P1.p H1 v → P2.p H1 w → D.nx ((s.set i (some v)).set j (some w)) H1) : tPar i j tr D s H := h H Ex.same _ fun vs H1 e hv => by
  cases hv with
  | cons a b =>
    cases b with
    | cons b c =>
      cases c
      exact ⟨_, _, rfl, k _ _ H1 e a b⟩
/-- xs.append(e) -/
theorem s_app {l : Addr} {xs : List α} {x : α} (hl : Ls H l xs) (ha : EvP ta s H (va (.ref l))) (h : EvP te s H (en x)) (hz : xs.length < 1000000) (k : ∀ H1, Ex H H1 → ∀ H2, Tu H1 H2 → Ls H2 l (xs ++ [x]) → (∀ q, q ≠ l → H2 q = H1 q) → D.nx s H2) :
    tDrop (tBM K "list" rAppend ta (tCons te tNil)) D s H := ha H Ex.same _ fun v H1 e1 hv => by
  obtain rfl : v = .ref l := hv
  obtain ⟨us, g1, g2⟩ := hl.up e1
  refine ⟨.inl ⟨rfl, us, .inl (.inl g1)⟩, h H1 e1 _ fun w H2 e2 hw => ?_⟩
  obtain ⟨us', g1', g2'⟩ := (hl.up e1).up e2
  have eu : us = us' := by
    have := e2 _ _ g1
    rw [g1'] at this
    cases this
    rfl
  subst eu
  have t := Tu.mutL (o := .lst (us ++ [w])) g1'
  exact ⟨l, us, w, rfl, rfl, g1', by rw [g2.length]; exact sz_lt (Nat.le_of_lt hz), k H2 (e1.tr e2) _ t ⟨_, upd_same, paired_app (paired_map g2' fun _ _ z => Enc.mono t z) (.cons (Enc.mono t hw) .nil)⟩ fun q hq => upd_ne hq⟩
end
end TB
set_option Elab.async false
set_option linter.all false
set_option maxRecDepth 100000
set_option maxHeartbeats 2000000
/-! TR: rules that the layer lacks: in a tuple of data, min and max of data, sorted data, pop and del by tuple keys. -/
namespace TB
open PySem PySem.Spec PyProof.Rows L2
section
variable {X : Cx}
/-! x in t, t a tuple of data -/
def rInU (K : PySem.W.Frag) : R2 := fun x y H Q => ∃ d ds, Dp K H x d ∧ Dp K H y (.tuple ds) ∧ SeqAt.shaped d = true ∧ SeqAt.shaped (.tuple ds) = true ∧ Q (.bl (ds.any fun z => PyData.eqv z d)) H
def rNotInU (K : PySem.W.Frag) : R2 := fun x y H Q => ∃ d ds, Dp K H x d ∧ Dp K H y (.tuple ds) ∧ SeqAt.shaped d = true ∧ SeqAt.shaped (.tuple ds) = true ∧ Q (.bl (!ds.any fun z => PyData.eqv z d)) H
theorem op_inU (hu : X.A.units + 65 < cLine) : OpR X (compareOp .In) (rInU X.K) := by
  intro pins s t H x y v u Q I rx ry ⟨d, ds, hd, he, sd, se, q⟩
  obtain ⟨as, r1⟩ := Dp.reads I d x v hd rx
  obtain ⟨bs, r2⟩ := Dp.reads I (.tuple ds) y u he ry
  exact SeqAt.in_tuple_reads r2 r1 (SeqAt.canLay_of_shaped se) (SeqAt.canLay_of_shaped sd) (room_in_shaped sd hu) ⟨.bl _, H, I, rfl, q⟩
theorem op_notInU (hu : X.A.units + 65 < cLine) : OpR X (compareOp .NotIn) (rNotInU X.K) := by
  intro pins s t H x y v u Q I rx ry ⟨d, ds, hd, he, sd, se, q⟩
  obtain ⟨as, r1⟩ := Dp.reads I d x v hd rx
  obtain ⟨bs, r2⟩ := Dp.reads I (.tuple ds) y u he ry
  exact SeqAt.notIn_tuple_reads r2 r1 (SeqAt.canLay_of_shaped se) (SeqAt.canLay_of_shaped sd) (room_in_shaped sd hu) ⟨.bl _, H, I, rfl, q⟩

/-! d.pop(k), del d[k]: keys that are tuples, there -/
def rPop1 : V → List V → Hp → VK → Prop := fun x xs H Q => ∃ (a : Addr) (kvs : List (List L2.Key × V)) (k : List L2.Key) (b : Addr) (v : V), x = .ref a ∧ xs = [.ref b] ∧ H a = some (.dT kvs) ∧ H b = some (.tup (k.map kV)) ∧
  valV kvs k = some v ∧ Q v (upd H a (.dT (dropK kvs k)))
theorem at_of_val {H : Hp} {kvs : List (List L2.Key × V)} {xs : List (List L2.Key × Addr × Value)} {k : List L2.Key} {v : V} (rel : KT H kvs xs) (e : valV kvs k = some v) : ∃ p, atKey xs k = some p ∧ RelV v p.2 := by
  have r := rel.val k
  rw [e] at r
  cases h : atKey xs k with
  | none =>
    rw [h] at r
    exact (show False from r).elim
  | some p =>
    rw [h] at r
    exact ⟨p, rfl, r⟩
theorem dropH_eq (xs : List (List L2.Key × Addr × Value)) (k : List L2.Key) : withoutH xs k = DT.dropH xs k := rfl
theorem dt_less {pins : List (Addr × Obj)} {t : TSt} {H : Hp} {s : Shared} {a : Addr} {kvs : List (List L2.Key × V)} {xs : List (List L2.Key × Addr × Value)} {k : List L2.Key} {h' : Heap} {tk : Nat} (I : Inv X pins t H s) (ha : H a = some (.dT kvs)) (rel : KT H kvs xs)
    (z : kvs.length ≤ sizeLine) (hd : (a == sysModules) = false) (dd : h'.DictOfH (tupleKind (mixKind X.prog X.w)) a (DT.dropH xs k)) (hs : Heap.SameBut a s.heap h') : Inv X pins t (upd H a (.dT (dropK kvs k))) { s with heap := h', toks := tk } := by
  obtain ⟨o, es, ep, hq, h2, h3, h4, _, h5⟩ := dd
  refine d_write I (by rw [ha]; exact True.intro) hs ⟨o, hq⟩ ⟨Nat.le_trans (dropK_le kvs k) z, hd, _, (L2.DX.KT_drop k rel).keeps (fun c ys ec => ?_), o, es, ep, hq, h2, h3, h4, h5⟩
  rw [upd_ne (ne_of ec ha (fun z => nomatch z))]
  exact ec
theorem mt_pop1 (hu : X.A.units + 1 < cLine) : MtR X "dict.pop" rPop1 := by
  intro pins s t H x xs v us Q I rx rxs ⟨a, kvs, k, b, w0, e1, e2, ha, hb, hv, q⟩
  subst e1
  subst e2
  cases rx
  obtain ⟨u1, rfl, r1⟩ := vals1 rxs
  cases r1
  obtain ⟨z, hd, ys, rel, dd⟩ := dt_of I.hok ha
  obtain ⟨p, hp, rp⟩ := at_of_val rel hv
  have hz : ys.length ≤ sizeLine := by rw [← Paired.length rel]; exact z
  refine call_pop_heap (hsz := hz) (.inl rfl) (PySem.F.args_dict_pop_2 _ _) (tupleKind_room_in1 hu) (key_of I.hok hb) hd dd hp fun h' dd' hs => ?_
  exact ⟨w0, _, dt_less I ha rel z hd dd' hs, rp, q⟩
def sDel1 (td ty : TE) : TS := fun D s H => td s H fun x H1 => ty s H1 fun y H2 => ∃ (a : Addr) (kvs : List (List L2.Key × V)) (k : List L2.Key) (b : Addr), x = .ref a ∧ H2 a = some (.dT kvs) ∧ y = .ref b ∧ H2 b = some (.tup (k.map kV)) ∧ (valV kvs k).isSome = true ∧ D.nx s (upd H2 a (.dT (dropK kvs k)))

end

/-! ### order of data -/
class EncO (a : Type) [DecidableEq a] [Enc a] where
  lt : a → a → Bool
  alk : ∀ x y : a, PySem.W.alike (Enc.d x) (Enc.d y) = true
  nnn : ∀ x : a, Enc.d x ≠ PyData.none
  lts : ∀ x y : a, PySem.W.dataLt (Enc.d x) (Enc.d y) = lt x y
  tri : ∀ x y : a, lt x y = false → lt y x = false → x = y
open PySem.W in
instance : EncO Int where
  lt x y := decide (x < y)
  alk x y := by
    show PySem.W.alike (.int x) (.int y) = true
    simp only [PySem.W.alike]
  nnn x := fun e => by cases e
  lts x y := dataLt_int x y
  tri x y h1 h2 := by
    have a := of_decide_eq_false h1
    have b := of_decide_eq_false h2
    omega
section
variable {a b : Type} [DecidableEq a] [Enc a] [EncO a] [DecidableEq b] [Enc b] [EncO b]
open PySem.W
def ltL : List a → List a → Bool
  | [], [] => false
  | [], _ :: _ => true
  | _ :: _, [] => false
  | x :: xs, y :: ys => if x = y then ltL xs ys else EncO.lt x y
theorem alk_all : ∀ xs ys : List a, alikeAll (xs.map Enc.d) (ys.map Enc.d) = true
  | [], _ => by simp only [List.map_nil, alikeAll]
  | _ :: _, [] => by simp only [List.map_nil, List.map_cons, alikeAll]
  | x :: xs, y :: ys => by simp only [List.map_cons, alikeAll, EncO.alk x y, alk_all xs ys, Bool.and_self]
theorem lex_nil_cons (x : PyData) (xs : List PyData) : PyProof.Rows.lexLt itemOrd (keyToksAll []) (keyToksAll (x :: xs)) = true := by
  rw [toks_all_cons]
  simp only [keyToksAll]
  rw [lex_diff (O := itemOrd) (by simp)]
  rfl
theorem lex_cons_nil (x : PyData) (xs : List PyData) : PyProof.Rows.lexLt itemOrd (keyToksAll (x :: xs)) (keyToksAll []) = false := by
  rw [toks_all_cons]
  simp only [keyToksAll]
  rw [lex_diff (O := itemOrd) (by simp)]
  rfl
theorem lex_all : ∀ xs ys : List a, PyProof.Rows.lexLt itemOrd (keyToksAll (xs.map Enc.d)) (keyToksAll (ys.map Enc.d)) = ltL xs ys
  | [], [] => lex_irrefl _
  | [], y :: ys => lex_nil_cons _ _
  | x :: xs, [] => lex_cons_nil _ _
  | x :: xs, y :: ys => by
    rw [List.map_cons, List.map_cons, ltL]
    have ei := Enc.inj x y
    by_cases h : x = y
    · rw [if_pos h, dataLt_all_yes (EncO.alk x y) (by rw [ei]; exact decide_eq_true h), lex_all xs ys]
    · rw [if_neg h, dataLt_all_no (EncO.alk x y) (by rw [ei]; exact decide_eq_false h), EncO.lts]
theorem ltL_tri : ∀ xs ys : List a, ltL xs ys = false → ltL ys xs = false → xs = ys
  | [], [], _, _ => rfl
  | [], _ :: _, h, _ => by simp [ltL] at h
  | _ :: _, [], _, h => by simp [ltL] at h
  | x :: xs, y :: ys, h1, h2 => by
    by_cases e : x = y
    · subst e
      rw [ltL, if_pos rfl] at h1 h2
      rw [ltL_tri xs ys h1 h2]
    · have e2 : ¬ y = x := fun z => e z.symm
      rw [ltL, if_neg e] at h1
      rw [ltL, if_neg e2] at h2
      exact absurd (EncO.tri x y h1 h2) e
instance : EncO (List a) where
  lt := ltL
  alk xs ys := by
    show PySem.W.alike (.tuple _) (.tuple _) = true
    simp only [PySem.W.alike]
    exact alk_all xs ys
  nnn x := fun e => by cases e
  lts xs ys := (dataLt_tuple _ _).trans (lex_all xs ys)
  tri := ltL_tri
instance : EncO (a × b) where
  lt p q := if p.1 = q.1 then EncO.lt p.2 q.2 else EncO.lt p.1 q.1
  alk p q := by
    show PySem.W.alike (.tuple [_, _]) (.tuple [_, _]) = true
    simp only [PySem.W.alike, alikeAll, EncO.alk, Bool.and_self]
  nnn x := fun e => by cases e
  lts p q := by
    have e1 := Enc.inj p.1 q.1
    have e2 := Enc.inj p.2 q.2
    refine (dataLt_pair (EncO.alk p.1 q.1) (EncO.alk p.2 q.2)).trans ?_
    rw [e1, e2, EncO.lts, EncO.lts]
    by_cases h : p.1 = q.1
    · rw [if_pos (decide_eq_true h), if_pos h]
      by_cases h2 : p.2 = q.2
      · rw [if_pos (decide_eq_true h2), h2]
        exact ((EncO.lts q.2 q.2).symm.trans (lex_irrefl _)).symm
      · rw [if_neg (by simp [h2])]
    · rw [if_neg (by simp [h]), if_neg h]
  tri p q h1 h2 := by
    by_cases e : p.1 = q.1
    · rw [if_pos e] at h1
      rw [if_pos e.symm] at h2
      exact Prod.ext e (EncO.tri _ _ h1 h2)
    · rw [if_neg e] at h1
      rw [if_neg fun z => e z.symm] at h2
      exact absurd (EncO.tri _ _ h1 h2) e

/-- the sorted list -/
def le (x y : a) : Bool := !EncO.lt y x
theorem le_eq : dataLe false (Enc.d (α := a)) = le := by
  funext x y
  show (!dataLt (Enc.d y) (Enc.d x)) = !EncO.lt y x
  rw [EncO.lts]
theorem le_total : TotalLe (le (a := a)) := by
  rw [← le_eq]
  exact sortLe_total _ _ _
theorem le_anti {x y : a} (h1 : le x y = true) (h2 : le y x = true) : x = y := by
  unfold le at h1 h2
  rw [Bool.not_eq_true'] at h1 h2
  exact EncO.tri x y h2 h1
def srt (xs : List a) : List a := xs.mergeSort le
theorem srt_perm (xs : List a) : (srt xs).Perm xs := List.mergeSort_perm xs le
theorem srt_pw (xs : List a) : (srt xs).Pairwise (fun x y => le x y = true) := sort_pairwise le_total xs
theorem srt_mem {xs : List a} {x : a} : x ∈ srt xs ↔ x ∈ xs := (srt_perm xs).mem_iff
theorem srt_len (xs : List a) : (srt xs).length = xs.length := (srt_perm xs).length_eq
/-- an ascending arrangement is the sorted list -/
theorem srt_one {xs ys : List a} (p : ys.Perm xs) (h : ys.Pairwise (fun x y => le x y = true)) : srt xs = ys := by
  refine List.Perm.eq_of_pairwise (le := fun x y => le x y = true) (fun x y _ _ => le_anti) (srt_pw xs) h ((srt_perm xs).trans p.symm)
end

/-! ### sorted, min, max of data -/
section
variable {X : Cx} {a : Type} [DecidableEq a] [Enc a] [EncO a]
theorem vals_of : ∀ {out : List Value} {bs : List a} {H : Hp}, PySem.W.EachIs (fun v b => ∃ u, RelV u v ∧ Enc.r H u b) out bs → ∃ us, Vals us out ∧ Paired (Enc.r H) us bs
  | _, _, _, .nil => ⟨[], .nil, .nil⟩
  | _, _, _, .cons ⟨u, h1, h2⟩ t => by
    obtain ⟨us, h3, h4⟩ := vals_of t
    exact ⟨u :: us, .cons h1 h3, .cons h2 h4⟩
theorem each_of : ∀ {us : List V} {its : List Value} {xs : List a} {H : Hp}, Vals us its → Paired (Enc.r H) us xs → PySem.W.EachIs (fun v b => ∃ u, RelV u v ∧ Enc.r H u b) its xs
  | _, _, _, _, .nil, .nil => .nil
  | _, _, _, _, .cons h t, .cons h' t' => .cons ⟨_, h, h'⟩ (each_of t t')
theorem each_reads {pins : List (Addr × Obj)} {t : TSt} {H : Hp} {s : Shared} (I : Inv X pins t H s) : ∀ {us : List V} {its : List Value} {xs : List a}, Vals us its → Paired (Enc.r H) us xs → PySem.W.EachIs (fun v b => ∃ as, Reads s.heap v (Enc.d b) as) its xs
  | _, _, _, .nil, .nil => .nil
  | _, _, _, .cons h t, .cons h' t' => .cons (Dp.reads I _ _ _ (Enc.dp X.K h') h) (each_reads I t t')
/-- sorted(xs) of a list of data -/
def rSortE (a : Type) [DecidableEq a] [Enc a] [EncO a] : List V → Hp → VK → Prop := fun vs H Q => ∃ (l : Addr) (xs : List a), vs = [V.ref l] ∧ Ls H l xs ∧ ((∀ x ∈ xs, ∃ y r, Enc.d x = .tuple (y :: r)) ∨ ∀ x ∈ xs, ∀ r, Enc.d x ≠ .tuple r) ∧
  ∀ (us : List V) (p : Addr), Paired (Enc.r H) us (srt xs) → H p = none → Q (.ref p) (upd H p (.lst us))
theorem cr_sortE (hd : Enc.dep a ≤ 60) (hu : X.A.units + 64 < cLine) : CallR X (.builtin "sorted") (rSortE a) := by
  intro pins s t H vs us Q I r ⟨l, xs, e, ⟨ws, hl, hw⟩, ht, q⟩
  subst e
  obtain ⟨its, rv, hi, hlen⟩ := I.list (.inl (.inl hl))
  rw [Vals.ref1 r]
  have hk : PySem.W.Sortable (xs.map Enc.d) := by
    rcases ht with h | h
    · left
      intro d hd
      obtain ⟨x, hx, rfl⟩ := List.mem_map.mp hd
      exact h x hx
    · right
      intro d hd
      obtain ⟨x, hx, rfl⟩ := List.mem_map.mp hd
      exact ⟨EncO.nnn x, h x hx⟩
  have hal : PySem.W.AllAlike (xs.map Enc.d) := PySem.W.AllAlike.of fun x y => EncO.alk x y
  have hL : xs.length ≤ sizeLine := by rw [← hw.length]; exact hlen
  refine PySem.W.sorted_data hi.isList (each_of rv hw) (each_reads I rv hw) hal hk hL (fun x _ => by
    have := Enc.dle x
    omega) fun out ho eo => ?_
  rw [le_eq] at eo
  obtain ⟨us, h1, h2⟩ := vals_of eo
  obtain ⟨ep, he⟩ := PyProof.Rows.sortedAll_at s.heap its (List.toArray out)
  have hz : us.length ≤ sizeLine := by
    rw [h2.length]
    exact Nat.le_trans (Nat.le_of_eq (srt_len xs)) hL
  exact ⟨.ref _, upd H (s.heap.objs.size + 1) (.lst us), I.laid (t' := s.toks) (fun _ _ => PyProof.Rows.sortedAll_old) (Nat.le_succ _) ⟨hz, out, ep, h1, he⟩, rfl, q us _ h2 (I.hok.fresh (Nat.le_succ _))⟩
/-- the first of the least -/
def leastOf (x : a) (xs : List a) : a := xs.foldl (fun z y => if EncO.lt y z = true then y else z) x
def mostOf (x : a) (xs : List a) : a := xs.foldl (fun z y => if EncO.lt z y = true then y else z) x
theorem minD_en (x : a) (xs : List a) : PySem.W.minD (Enc.d x) (xs.map Enc.d) = Enc.d (leastOf x xs) := by
  unfold PySem.W.minD leastOf
  induction xs generalizing x with
  | nil => rfl
  | cons y ys ih =>
    rw [List.map_cons, List.foldl_cons, List.foldl_cons, ← ih, EncO.lts]
    cases EncO.lt y x <;> rfl
theorem maxD_en (x : a) (xs : List a) : PySem.W.maxD (Enc.d x) (xs.map Enc.d) = Enc.d (mostOf x xs) := by
  unfold PySem.W.maxD mostOf
  induction xs generalizing x with
  | nil => rfl
  | cons y ys ih =>
    rw [List.map_cons, List.foldl_cons, List.foldl_cons, ← ih, EncO.lts]
    cases EncO.lt x y <;> rfl
theorem allAlk (xs : List a) : PySem.W.AlikeAll (xs.map Enc.d) := by
  constructor
  · intro x hx y hy
    obtain ⟨u, _, rfl⟩ := List.mem_map.mp hx
    obtain ⟨v, _, rfl⟩ := List.mem_map.mp hy
    exact EncO.alk u v
  · intro x hx
    obtain ⟨u, _, rfl⟩ := List.mem_map.mp hx
    exact EncO.nnn u
/-- the value at a place that reads as m stands for m -/
theorem at_reads {pins : List (Addr × Obj)} {t : TSt} {H : Hp} {s : Shared} (I : Inv X pins t H s) {us : List V} {its : List Value} {xs : List a} (rv : Vals us its) (hw : Paired (Enc.r H) us xs) {i : Nat} {v : Value} {m : a} {h' : Heap} {bs : List Addr} (hi : its[i]? = some v)
    (hk : ∀ b o, s.heap.get? b = some o → h'.get? b = some o) (hr : Reads h' v (Enc.d m) bs) : ∃ u, RelV u v ∧ Enc.r H u m := by
  obtain ⟨u, h1, h2⟩ : ∃ u, us[i]? = some u ∧ RelV u v := by
    have hl := rv.length
    have hlt : i < us.length := by
      rw [hl]
      exact (List.getElem?_eq_some_iff.mp hi).1
    obtain ⟨w, g1, g2⟩ := rv.get (List.getElem?_eq_getElem hlt)
    rw [hi] at g1
    cases g1
    exact ⟨us[i], List.getElem?_eq_getElem hlt, g2⟩
  obtain ⟨x, h3, h4⟩ := paired_getL hw h1
  obtain ⟨as, h5⟩ := Dp.reads I _ _ _ (Enc.dp X.K h4) h2
  have e := SeqAt.Reads.unique _ _ _ _ _ (Enc.lay x) (PyProof.Rows.Reads.keeps hk h5) hr
  have e2 : x = m := by
    have := Enc.inj x m
    rw [e, Enc.inj] at this
    simpa using this.symm
  subst e2
  exact ⟨u, h2, h4⟩
/-- min(xs) of a list of data -/
def rMinE (a : Type) [DecidableEq a] [Enc a] [EncO a] : List V → Hp → VK → Prop := fun vs H Q => ∃ (l : Addr) (x : a) (xs : List a), vs = [V.ref l] ∧ Ls H l (x :: xs) ∧ ∀ u, Enc.r H u (leastOf x xs) → Q u H
theorem cr_minE (hd : Enc.dep a ≤ 60) (hc : X.calm = true) (hu : X.A.units + 64 < cLine) : CallR X (.builtin "min") (rMinE a) := by
  intro pins s t H vs us Q I r ⟨l, x, xs, e, ⟨ws, hl, hw⟩, q⟩
  subst e
  obtain ⟨its, rv, hi, hlen⟩ := I.list (.inl (.inl hl))
  rw [Vals.ref1 r]
  obtain ⟨as, hr⟩ := Dp.readsAll I _ _ _ (encs_dp X.K hw) rv
  have hdp := encs_dep (x :: xs)
  refine PySem.W.min_list_data (I.ok.hd hc) hi.isList (x := Enc.d x) (xs := xs.map Enc.d) (by simpa using hr) (allAlk (x :: xs)) (by
    have h2 : PyData.depthAll (Enc.d x :: xs.map Enc.d) ≤ Enc.dep a := hdp
    omega) fun i v h' tk bs hiv hrd hk => ?_
  rw [minD_en] at hrd
  obtain ⟨u, h1, h2⟩ := at_reads I rv hw (by simpa using hiv) hk hrd
  exact ⟨u, H, I.kept hk, h1, q u h2⟩
/-- max(xs, default=n) of a list of ints -/
def rMaxDf : List V → List V → Hp → VK → Prop := fun vs zs H Q => ∃ (l : Addr) (xs : List Int) (d : Int), vs = [V.ref l] ∧ zs = [.int d] ∧ Ls H l xs ∧ (xs = [] → Q (.int d) H) ∧ ∀ y ys, xs = y :: ys → Q (.int (mostOf y ys)) H
theorem cr_maxDf (hc : X.calm = true) (hu : X.A.units + 64 < cLine) : CallRK X (.builtin "max") ["default"] rMaxDf := by
  intro pins s t H vs zs us ws Q I r rz ⟨l, xs, d, e1, e2, ⟨vs', hl, hw⟩, q0, q1⟩
  subst e1
  subst e2
  obtain ⟨its, rv, hi, hlen⟩ := I.list (.inl (.inl hl))
  rw [Vals.ref1 r]
  obtain ⟨dv, rfl, rd⟩ := vals1 rz
  obtain ⟨as, hr⟩ := Dp.readsAll I _ _ _ (encs_dp X.K hw) rv
  have hdp := encs_dep xs
  refine PySem.W.max_list_default (I.ok.hd hc) hi.isList (xs := xs.map Enc.d) (by simpa using hr) (allAlk xs) (by
    have h2 : PyData.depthAll (xs.map Enc.d) ≤ 0 := hdp
    omega) (fun e h' tk hk => ?_) fun y ys i v h' tk bs e hiv hrd hk => ?_
  · exact ⟨.int d, H, I.kept hk, rd, q0 (List.map_eq_nil_iff.mp e)⟩
  · cases xs with
    | nil => cases e
    | cons z zs =>
      rw [List.map_cons] at e
      injection e with g1 g2
      subst g1
      subst g2
      rw [maxD_en] at hrd
      obtain ⟨u, h1, h2⟩ := at_reads I rv hw (by simpa using hiv) hk hrd
      obtain rfl : u = .int (mostOf z zs) := h2
      exact ⟨_, H, I.kept hk, h1, q1 z zs rfl⟩
end
end TB
set_option Elab.async false
set_option linter.all false
set_option maxRecDepth 100000
set_option maxHeartbeats 2000000
/-! TC: comprehensions that fill a container which is no list: one core for sets of tuples and for dicts by tuples. -/
namespace TB
open PySem PySem.Spec PyProof.Rows L2
section
variable {X : Cx}
/-- the reading: O D is the new container at D, tb what a turn that passes its tests wants -/
def tCc (O : Addr → HO) (wi : TI) (g : TG) (tt : TT) (tb : Addr → TSt → Hp → (Hp → Prop) → Prop) (vs : List Nat) : TE := fun s H Q => wi s H fun J H1 => ∀ D, H1 D = none →
  ∃ W : Nat → Nat → Hp → Prop, (∃ m, W 0 m (upd H1 D (O D))) ∧ ∀ i m H, W i m H →
    (J.stop i H ∧ Q (.ref D) H) ∨ (J.go i H ∧ ∃ Nx : Hp → Prop, (∀ H', Nx H' → ∃ m', m' < m ∧ W (i + 1) m' H') ∧
      ∀ x H', J.yld i H x H' → g x (wipe s vs) H' fun s2 H2 => wipe s2 vs = wipe s vs ∧ tt s2 H2 fun b H3 => if b = true then tb D s2 H3 Nx else Nx H3)
/-- AD: what must hold so that the turn's own part (the element, its store) ends well -/
abbrev AddW := Value → Env → (Shared → Prop) → (Value → Shared → Prop) → Shared → Prop
/-- what one must know of a kind of comprehension -/
structure Kind (P : Program) (w : World) (A : Around) (ce tg iter : Expr) (ifs : List Expr) (AD : AddW) : Prop where
  cl : clausesOf ce = [⟨tg, iter, ifs, 0⟩]
  loop : ∀ {R : Result → Shared → Prop} {s : Shared} {env : Env} {it : Value} {D : Addr} (I : Nat → Shared → Prop),
    (∀ n s, I n s → wpAny (model P w) A (pyNext it) (fun r s1 => match r with
      | none => R (.ok .next) s1
      | some v => wpAny (model P w) A (letOwnedTupleGo tg it v) (fun _ s1' => wpAny (model P w) A (assign tg env v) (fun _ s2 =>
          wpAny (model P w) A (forIn ifs true fun c r => if r = true then do let ok ← isTrue c env (eval c env); pure (ForInStep.yield ok) else pure (ForInStep.yield r)) (fun ok s3 =>
            if ok = true then AD (.ref D) env (fun s4 => ∃ m, m < n ∧ I m s4) (notedBy (model P w) A env fun e s' => R (.error e) s') s3
            else ∃ m, m < n ∧ I m s3) (notedBy (model P w) A env fun e s' => R (.error e) s') s2) (notedBy (model P w) A env fun e s' => R (.error e) s') s1') (notedBy (model P w) A env fun e s' => R (.error e) s') s1) (notedBy (model P w) A env fun e s' => R (.error e) s') s) →
    ∀ n, I n s → codeAny (model P w) A (.compLoop ce 0 it (.ref D) env) R s
  start : ∀ {R : Result → Shared → Prop} {s : Shared} {env : Env} {it acc : Value}, codeAny (model P w) A (.compLoop ce 0 it acc env) R s →
    wpAny (model P w) A (pyIter it) (fun it' s' => codeAny (model P w) A (.compLoop ce 0 it' acc env) R s') (notedBy (model P w) A env fun x s' => R (.error x) s') s → codeAny (model P w) A (.compStart ce 0 it acc env) R s
theorem cc_core {pins : List (Addr × Obj)} {s : Shared} {sg : TSt} {H : Hp} {Q : VK} {ce tg iter : Expr} {ifs : List Expr} {scope : Scope} {own : List (Str × Nat)} {pos : Pos} {wi : TI} {g : TG} {tt : TT} {tb : Addr → TSt → Hp → (Hp → Prop) → Prop} {AD : AddW} {mk : Sem Value} {ob : Obj} {O : Addr → HO}
    (kd : Kind X.prog X.w X.A ce tg iter ifs AD) (hmk : ∀ (s : Shared) (Q : Value → Shared → Prop) (E : Value → Shared → Prop), Q (.ref s.heap.objs.size) { s with heap := s.heap.push ob } → wpAny (model X.prog X.w) X.A mk Q E s)
    (hob : ∀ (H : Hp) (h : Heap), sysModules < h.objs.size → ObjOk X.prog X.w H (h.push ob) h.objs.size (O h.objs.size))
    (hc : X.calm = true) (hN : X.N.Nodup) (I : Inv X pins sg H s) (hi : PI X tg iter wi) (ok : BlkOk X.N X.env.scope scope own)
    (hg : ∀ (s : Shared) (H : Hp) (C : Addr) (cl : List (Str × Addr)) (fp : List Addr), PG (X.blk s H scope (compEnvC scope cl C X.env) fp) tg g) (ht : ∀ (s : Shared) (H : Hp) (C : Addr) (cl : List (Str × Addr)) (fp : List Addr), PTs (X.blk s H scope (compEnvC scope cl C X.env) fp) ifs tt)
    (hb : ∀ (s : Shared) (H : Hp) (C : Addr) (cl : List (Str × Addr)) (fp : List Addr) (pins : List (Addr × Obj)) (s3 : Shared) (s2 : TSt) (H3 : Hp) (D : Addr) (k : Hp → Prop), Inv (X.blk s H scope (compEnvC scope cl C X.env) fp) pins s2 H3 s3 → tb D s2 H3 k →
      AD (.ref D) (compEnvC scope cl C X.env) (fun s4 => ∃ H4, Inv (X.blk s H scope (compEnvC scope cl C X.env) fp) pins s2 H4 s4 ∧ k H4) (X.blk s H scope (compEnvC scope cl C X.env) fp).xe s3)
    (mono : ∀ {acc : Value} {env : Env} {Q1 Q2 : Shared → Prop} {E1 E2 : Value → Shared → Prop} {s : Shared}, AD acc env Q1 E1 s → (∀ s, Q1 s → Q2 s) → (∀ e s, E1 e s → E2 e s) → AD acc env Q2 E2 s)
    (hs : ∀ x, foldedSetIterable iter X.env x = pure x) (h : tCc O wi g tt tb (own.map (·.2)) sg H Q) : 
    wpAny (model X.prog X.w) X.A (comprehension ce scope X.env pos mk false (eval iter X.env) none) (EP X pins sg Q) X.xe s := by
  have hfree : ∀ y ∈ scope.names, y.2 = .free → ∃ c, X.env.cells.lookup y.1 = some c := fun y hy e => (ok.free y hy e).elim (fun k => I.ok.has _ (.inl k)) fun k => I.ok.has _ (.inr k)
  refine wpAny_comprehension_free (use := none) kd.cl hs (closure_ok hfree) ok.kind (fun y hy e => by rw [ok.uniq y hy, e]) (thn (hi.run pins s sg H _ I h) fun xv s1 hx => thn hx fun itv s2 ⟨it, fp, tn, J, H2, e, I2, T, st2, f2, q⟩ => ?_)
  subst e
  refine hmk s2 _ _ (newEnv_comp ?_)
  have hDn : H2 s2.heap.objs.size = none := I2.hok.fresh (Nat.le_refl _)
  obtain ⟨W, ⟨m0, w0⟩, turn⟩ := q _ hDn
  have sz : ∀ b ∈ fp, b < s2.heap.objs.size := fun b hb => by
    obtain ⟨o, e, _⟩ := T.obj _ _ st2 b hb
    exact Heap.lt_size e
  have I3 : Inv X pins sg (upd H2 s2.heap.objs.size (O s2.heap.objs.size)) { s2 with heap := s2.heap.push ob } :=
    I2.laid (t' := s2.toks) (fun b o e => Heap.get?_push_of_some _ e) (Nat.le_refl _) (hob _ _ I2.big)
  generalize hD : s2.heap.objs.size = D at *
  have f3 : ∀ b ∈ fp, FpOk X pins (upd H2 D (O D)) b ∧ b < ({ s2 with heap := s2.heap.push ob } : Shared).heap.objs.size := fun b hb => by
    have hlt := sz b hb
    refine ⟨⟨?_, (f2 b hb).2⟩, ?_⟩
    · rw [upd_ne (Nat.ne_of_lt hlt)]
      exact (f2 b hb).1
    · show b < (s2.heap.push ob).objs.size
      rw [Heap.size_push, hD]
      exact Nat.lt_succ_of_lt hlt
  have st3 : tn 0 (s2.heap.push ob) := T.keep _ _ _ st2 fun b _ o e => Heap.get?_push_of_some _ e
  generalize hs3 : ({ s2 with heap := s2.heap.push ob } : Shared) = s3 at *
  have h3 : s2.heap.push ob = s3.heap := by rw [← hs3]
  rw [h3] at st3
  have I4 := block_start I3 ok hN f3
  generalize hH3 : upd H2 D (O D) = H3 at *
  generalize hcl : cellsFrom (s3.heap.objs.size + 1) scope.names (cloFrom X.env.cells scope.names []) = cl at *
  have pg := hg s3 H3 s3.heap.objs.size cl fp
  have pt := ht s3 H3 s3.heap.objs.size cl fp
  have pb := hb s3 H3 s3.heap.objs.size cl fp
  show codeAny _ _ (.compStart ce 0 (.ref it) (.ref D) (compEnvC scope cl s3.heap.objs.size X.env)) (compPost (model X.prog X.w) X.A X.xe none (EP X pins sg Q) (.ref D) s3.heap.objs.size) { s3 with heap := pushCells (s3.heap.push { cls := .type "dict", data := .dict #[] }) scope.names }
  generalize hce : compEnvC scope cl s3.heap.objs.size X.env = cenv at *
  have cL : cenv.locals = s3.heap.objs.size := by
    rw [← hce]
    rfl
  generalize hs4 : ({ s3 with heap := pushCells (s3.heap.push { cls := .type "dict", data := .dict #[] }) scope.names } : Shared) = s4 at *
  have st4 : tn 0 s4.heap := T.keep _ _ _ st3 fun b _ o e => by
    rw [← hs4]
    exact pushCells_keeps _ _ _ _ (Heap.get?_push_of_some _ e)
  let Y := X.blk s3 H3 scope cenv fp
  have stat : ∀ {s' : TSt} {H' : Hp} {t : Shared}, Inv Y [] s' H' t → (∀ b ∈ fp, H' b = none) → ∀ b ∈ fp, FpOk Y [] H' b := fun I' hn b hb =>
    ⟨hn b hb, (I'.ok.exf b hb).1, I'.ok.exfs b hb, .inl hb, fun x c e => (I'.ok.exf b hb).2 x c e, fun p hp => (List.not_mem_nil hp).elim⟩
  have loop : codeAny (model X.prog X.w) X.A (.compLoop ce 0 (.ref it) (.ref D) cenv) (compPost (model X.prog X.w) X.A X.xe none (EP X pins sg Q) (.ref D) s3.heap.objs.size) s4 := by
    refine kd.loop (fun n s' => ∃ i H', Inv Y [] (wipe sg (own.map (·.2))) H' s' ∧ tn i s'.heap ∧ (∀ b ∈ fp, H' b = none) ∧ W i n H') ?_ m0 ⟨0, H3, I4, st4, fun b hb => (f3 b hb).1.1, w0⟩
    rintro n s5 ⟨i, H5, I5, st5, n5, w5⟩
    rcases turn i n H5 w5 with ⟨stop, qq⟩ | ⟨go, Nx, hNx, step⟩
    · refine thnF (T.done Y rfl rfl rfl hc i [] s5 _ H5 (fun _ _ => False) I5 (stat I5 n5) st5 stop) fun r s6 ⟨hr, I6⟩ => ?_
      subst hr
      have I7 : Inv X pins sg H5 s6 := I3.call' (ch := fp) I6.os I6.base I6.hok I6.bare fun b hb => ⟨(f3 b hb).1.2.2.2.1, (f3 b hb).1.2.1, (f3 b hb).1.2.2.2.2.1, (f3 b hb).1.2.2.2.2.2⟩
      have nC : H5 s3.heap.objs.size = none := cL ▸ (I6.free : H5 cenv.locals = none)
      obtain ⟨m, hn, _⟩ := I6.loc
      obtain ⟨k0, k1, k2, k3, k4, k5⟩ := I3.fpOk (Nat.le_refl _) nC
      exact ⟨m, cL ▸ (hn : s6.heap.Ns cenv.locals m), fun h' sb => ⟨.ref D, H5, I7.turned (t' := s6.toks) (fun b o hb e => (sb.2 b hb).trans e) k0 k1 k3 k4 k5, rfl, qq⟩⟩
    · refine thnF (T.item Y rfl rfl rfl hc i [] s5 _ H5 (fun _ _ => False) I5 (stat I5 n5) st5 go) fun r s6 ⟨u, hr, h6⟩ => ?_
      subst hr
      refine thnF h6 fun _ s7 ⟨x, H7, I7, r7, y7, st7, n7⟩ => ?_
      refine thnF (pg.run _ s7 _ H7 x u _ (I7.pinned (stat I7 n7) (T.obj _ _ st7)) r7 (step x H7 y7)) fun _ s8 ⟨s8', H8, I8, hw8, q8⟩ => ?_
      refine thnF (pt.run _ s8 s8' H8 _ I8 q8) fun b s9 ⟨H9, I9, q9⟩ => ?_
      have fin : ∀ (t : Shared) (H' : Hp), Inv Y ([] ++ pinsAt fp s7.heap) s8' H' t → Nx H' → ∃ m, m < n ∧ ∃ i H', Inv Y [] (wipe sg (own.map (·.2))) H' t ∧ tn i t.heap ∧ (∀ b ∈ fp, H' b = none) ∧ W i m H' := fun t H' I' nx => by
        obtain ⟨m', hm, w'⟩ := hNx H' nx
        have pin' : ∀ b ∈ fp, ∀ o, s7.heap.get? b = some o → t.heap.get? b = some o ∧ H' b = none := fun b hb o e =>
          let z := I'.pin (b, o) (List.mem_append_right _ (List.mem_append_right _ (mem_pinsAt hb e)))
          ⟨z.1, z.2.1⟩
        refine ⟨m', hm, i + 1, H', (I'.unpinned (pins := [])).weak (by rw [← hw8, wipe_length]) (fun j v e => ?_), T.keep _ _ _ st7 fun b hb o e => (pin' b hb o e).1, fun b hb => ?_, w'⟩
        · rw [← hw8] at e
          exact (wipe_some e).1
        · obtain ⟨o, e, _⟩ := T.obj _ _ st7 b hb
          exact (pin' b hb o e).2
      cases b with
      | false => exact fin _ _ I9 q9
      | true => exact mono (pb _ s9 s8' H9 D Nx I9 q9) (fun t ⟨H', I', nx⟩ => fin t H' I' nx) fun e s z => z.elim
  exact kd.start loop (T.self X.A 0 _ _ _ st4 loop)
end
end TB
set_option Elab.async false
set_option linter.all false
set_option maxRecDepth 100000
set_option maxHeartbeats 2000000
/-! TC2: {e for ..} of tuples of ints, {k: v for ..} by tuples; sorted(set). -/
namespace TB
open PySem PySem.Spec PyProof.Rows L2
section
variable {P : Program} {w : World} {A : Around}
def adSet (elt : Expr) : Program → World → Around → AddW := fun P w A acc env Q E s => wpAny (model P w) A (eval elt env) (fun x s4 => wpAny (model P w) A (call (.builtin "set.add") [acc, x]) (fun _ s5 => Q s5) E s4) E s
theorem kind_set {elt tg iter : Expr} {ifs : List Expr} {scope : Scope} {pos : Pos} : Kind P w A (.SetComp elt [⟨tg, iter, ifs, 0⟩] scope pos) tg iter ifs (adSet elt P w A) where
  cl := rfl
  loop := fun I h n hn => PpSet.compLoopS_any I h n hn
  start := fun h0 h => PpSet.codeAny_compStart_set h0 h
def adDict (kx vx : Expr) : Program → World → Around → AddW := fun P w A acc env Q E s => ∃ D, acc = .ref D ∧
  wpAny (model P w) A (eval kx env) (fun kv s4 => wpAny (model P w) A (eval vx env) (fun vv s5 => wpAny (model P w) A (dictSet D kv vv) (fun _ s6 => Q s6) E s5) E s4) E s
theorem kind_dict {kx vx tg iter : Expr} {ifs : List Expr} {scope : Scope} {pos : Pos} : Kind P w A (.DictComp kx vx [⟨tg, iter, ifs, 0⟩] scope pos) tg iter ifs (adDict kx vx P w A) where
  cl := rfl
  loop := fun {R s env it D} I h n hn => L2.compLoop_anyD I (fun n s hI => wpAny_mono (h n s hI) (fun r s1 q => by
    cases r with
    | none => exact q
    | some v =>
      refine wpAny_mono q (fun _ s2 q => wpAny_mono q (fun _ s3 q => wpAny_mono q (fun ok s4 q => ?_) fun _ _ z => z) fun _ _ z => z) fun _ _ z => z
      cases ok with
      | false => exact q
      | true =>
        obtain ⟨D', e, q⟩ := q
        cases e
        exact q) fun _ _ z => z) n hn
  start := fun h0 h => codeAny_compStart_dict h0 h
end
section
variable {X : Cx}
/-- the set grows by the tuple y -/
def tbSet (P : Program) (w : World) (te : TE) : Addr → TSt → Hp → (Hp → Prop) → Prop := fun D s H k => te s H fun y H4 => ∃ (b : Addr) (ns : List Int) (L : List (Addr × List Int)), y = .ref b ∧ H4 b = some (.tup (ns.map V.int)) ∧ H4 D = some (SetTO P w D L) ∧
  (∀ p ∈ L, H4 p.1 = some (.tup (p.2.map V.int))) ∧ L.length + 1 < 64 ∧ ∀ L', (ns ∈ L.map (·.2) → L' = L) → (ns ∉ L.map (·.2) → L'.Perm ((b, ns) :: L)) → k (upd H4 D (SetTO P w D L'))
theorem add_setT {pins : List (Addr × Obj)} {s : Shared} {sg : TSt} {H : Hp} {D b : Addr} {ns : List Int} {L : List (Addr × List Int)} {Q : Value → Shared → Prop} {E : Value → Shared → Prop} (I : Inv X pins sg H s) (hu : X.A.units + 64 < cLine) (hD : H D = some (SetTO X.prog X.w D L))
    (hb : H b = some (.tup (ns.map V.int))) (hL : ∀ p ∈ L, H p.1 = some (.tup (p.2.map V.int))) (hfew : L.length + 1 < 64)
    (h : ∀ (L' : List (Addr × List Int)) s', (ns ∈ L.map (·.2) → L' = L) → (ns ∉ L.map (·.2) → L'.Perm ((b, ns) :: L)) → Inv X pins sg (upd H D (SetTO X.prog X.w D L')) s' → Q .none s') :
    wpAny (model X.prog X.w) X.A (call (.builtin "set.add") [.ref D, .ref b]) Q E s := by
  have R0 : SetT0 X.prog X.w s.heap D L := (I.hok D _ hD).1
  obtain ⟨es, ep, t, R⟩ := R0.full fun p hp => L2.Inv.isT I (.inl (.inl (hL p hp)))
  obtain ⟨o, ho, hex, hd⟩ := R.ob
  refine wpAny_call_entry PySem.F.slot_set_add ⟨o, ho, hex.1⟩ PySem.F.entry_set_add ?_ (PySem.F.args_set_add_2 _ _)
  unfold Builtin.«set.add» Builtin.Frozenset.oneOther
  simp only [List.isEmpty_nil, bind_assoc]
  unfold Builtin.Frozenset.addrOf setAdd
  refine wpAny_bind (wpAny_pure ?_)
  try dsimp only
  refine wpAny_bind (wpAny_pure ?_)
  try dsimp only
  refine wpAny_bind (wpAny_holding (wpAny_bind (wpAny_pyHash_tuple (by
    show X.A.units + 1 < cLine
    omega) (L2.Inv.isT I (.inl (.inl hb))) ?_)))
  refine add_at (s := { s with toks := s.toks + (ns.length + 1) }) R (L2.Inv.isT (I.tok _) (.inl (.inl hb))) (by
    show X.A.units + 1 < cLine
    omega) hfew fun b0 h' L' es' ep' t' hsb R' c1 c2 => ?_
  show wpAny _ _ (ret Value.none) _ _ _
  obtain ⟨o', ho', _⟩ := R'.ob
  exact wpAny_pure ⟨_, rfl, h L' _ c1 c2 (I.write (e := D) (t' := s.toks + (ns.length + 1)) (by rw [hD]; trivial) (.inl rfl) (fun c u hc hu => (hsb.2 c hc).trans hu) ⟨o', ho'⟩ (setTO_new R'.t0))⟩
theorem set_fresh {P : Program} {w : World} {h : Heap} : SetT0 P w (h.push { cls := .type "set", dict := none, data := .set #[] 0 (.fresh 0 0 (!w.params.followText "set-order")) }) h.objs.size [] :=
  (setTR_fresh (P := P) (Heap.get?_push_size _ rfl)).t0
/-- {elt for target in iter if ..}, elt a tuple of ints -/
theorem pe_scT {elt tg iter : Expr} {ifs : List Expr} {scope : Scope} {own : List (Str × Nat)} {pos : Pos} {wi : TI} {g : TG} {tt : TT} {te : TE} (hc : X.calm = true) (hu : X.A.units + 64 < cLine) (hN : X.N.Nodup) (hi : PI X tg iter wi) (ok : BlkOk X.N X.env.scope scope own)
    (hg : ∀ (s : Shared) (H : Hp) (C : Addr) (cl : List (Str × Addr)) (fp : List Addr), PG (X.blk s H scope (compEnvC scope cl C X.env) fp) tg g) (ht : ∀ (s : Shared) (H : Hp) (C : Addr) (cl : List (Str × Addr)) (fp : List Addr), PTs (X.blk s H scope (compEnvC scope cl C X.env) fp) ifs tt)
    (he : ∀ (s : Shared) (H : Hp) (C : Addr) (cl : List (Str × Addr)) (fp : List Addr), PE (X.blk s H scope (compEnvC scope cl C X.env) fp) elt te) (hs : ∀ x, foldedSetIterable iter X.env x = pure x := by intro _; rfl) :
    PE X (.SetComp elt [⟨tg, iter, ifs, 0⟩] scope pos) (tCc (fun D => SetTO X.prog X.w D []) wi g tt (tbSet X.prog X.w te) (own.map (·.2))) := by
  refine ⟨fun pins s sg H Q I h => ?_⟩
  rw [PpSet.eval_SetComp]
  refine cc_core kind_set (fun s Q E h => PpSet.newSet_ok h) (fun H h hb => setTO_new set_fresh) hc hN I hi ok hg ht (fun s0 H0 C cl fp pins s3 s2 H3 D k I3 hk => ?_) (fun h h1 h2 => wpAny_mono h (fun _ _ q => wpAny_mono q (fun _ _ q => h1 _ q) h2) h2) hs h
  refine thnF ((he s0 H0 C cl fp).run pins s3 s2 H3 _ I3 hk) fun v s4 ⟨y, H4, I4, ry, b, ns, L, ey, hb, hD, hL, hf, q⟩ => ?_
  subst ey
  cases ry
  exact add_setT (X := X.blk s0 H0 scope (compEnvC scope cl C X.env) fp) I4 hu hD hb hL hf fun L' s' c1 c2 I' => ⟨_, I', q L' c1 c2⟩
/-- {k: v for target in iter if ..}, k a tuple -/
def tbDict (tk tv : TE) : Addr → TSt → Hp → (Hp → Prop) → Prop := fun D s H k => tk s H fun y H4 => tv s H4 fun z H5 => ∃ (b : Addr) (ks : List Key) (kvs : List (List Key × V)), y = .ref b ∧ H5 b = some (.tup (ks.map kV)) ∧ H5 D = some (.dT kvs) ∧ kvs.length < sizeLine ∧ k (upd H5 D (.dT (putK kvs ks z)))
theorem pe_dcT {kx vx tg iter : Expr} {ifs : List Expr} {scope : Scope} {own : List (Str × Nat)} {pos : Pos} {wi : TI} {g : TG} {tt : TT} {tk tv : TE} (hc : X.calm = true) (hu : X.A.units + 64 < cLine) (hN : X.N.Nodup) (hi : PI X tg iter wi) (ok : BlkOk X.N X.env.scope scope own)
    (hg : ∀ (s : Shared) (H : Hp) (C : Addr) (cl : List (Str × Addr)) (fp : List Addr), PG (X.blk s H scope (compEnvC scope cl C X.env) fp) tg g) (ht : ∀ (s : Shared) (H : Hp) (C : Addr) (cl : List (Str × Addr)) (fp : List Addr), PTs (X.blk s H scope (compEnvC scope cl C X.env) fp) ifs tt)
    (hk : ∀ (s : Shared) (H : Hp) (C : Addr) (cl : List (Str × Addr)) (fp : List Addr), PE (X.blk s H scope (compEnvC scope cl C X.env) fp) kx tk)
    (hv : ∀ (s : Shared) (H : Hp) (C : Addr) (cl : List (Str × Addr)) (fp : List Addr), PE (X.blk s H scope (compEnvC scope cl C X.env) fp) vx tv) (hs : ∀ x, foldedSetIterable iter X.env x = pure x := by intro _; rfl) :
    PE X (.DictComp kx vx [⟨tg, iter, ifs, 0⟩] scope pos) (tCc (fun _ => .dT []) wi g tt (tbDict tk tv) (own.map (·.2))) := by
  refine ⟨fun pins s sg H Q I h => ?_⟩
  rw [arm_eval_DictComp]
  refine cc_core kind_dict (fun s Q E h => wpAny_newObj_type h) (fun H h hb => dt_empty h hb) hc hN I hi ok hg ht (fun s0 H0 C cl fp pins s3 s2 H3 D k I3 q => ⟨D, rfl, ?_⟩)
    (fun ⟨D, e, h⟩ h1 h2 => ⟨D, e, wpAny_mono h (fun _ _ q => wpAny_mono q (fun _ _ q => wpAny_mono q (fun _ _ q => h1 _ q) h2) h2) h2⟩) hs h
  refine thnF ((hk s0 H0 C cl fp).run pins s3 s2 H3 _ I3 q) fun u s4 ⟨y, H4, I4, ry, q⟩ => ?_
  refine thnF ((hv s0 H0 C cl fp).run pins s4 s2 H4 _ I4 q) fun u2 s5 ⟨z, H5, I5, rz, b, ks, kvs, ey, hb, hD, hl, qq⟩ => ?_
  subst ey
  cases ry
  obtain ⟨z1, hd, xs, rel, dd⟩ := dt_of I5.hok hD
  have hz : xs.length ≤ sizeLine := by rw [← Paired.length rel]; exact z1
  refine wpAny_dictSet_heap (hsz := hz) (show X.A.units < cLine by omega) (key_of I5.hok hb) dd fun h' dd' hs => ⟨upd H5 D (.dT (putK kvs ks z)), ?_, qq⟩
  have hl : (putK kvs ks z).length ≤ sizeLine := by have := length_putK kvs ks z; omega
  obtain ⟨o, es, ep, hq, h2, h3, h4, _, h5⟩ := dd'
  refine d_write I5 (by rw [hD]; exact True.intro) hs ⟨o, hq⟩ ⟨hl, hd, _, (rel.put ks hb rz).keeps fun c ys ec => ?_, o, es, ep, hq, h2, h3, h4, h5⟩
  rw [upd_ne (ne_of ec hD (fun z => nomatch z))]
  exact ec
end
end TB
set_option Elab.async false
set_option linter.all false
set_option maxRecDepth 100000
set_option maxHeartbeats 2000000
/-! TC3: sorted(set of cells), set(list of cells). -/
namespace TB
open PySem PySem.Spec PyProof.Rows L2
/-- the cells of a tracked set -/
def SetCs (H : Hp) (L : List (Addr × List Int)) (cs : List Cell) : Prop := Paired (fun (p : Addr × List Int) (c : Cell) => H p.1 = some (.tup [.int c.1, .int c.2]) ∧ p.2 = [c.1, c.2]) L cs
def IsC (H : Hp) (v : Value) (c : Cell) : Prop := ∃ b, v = .ref b ∧ H b = some (.tup [.int c.1, .int c.2])
theorem setCs_vals {H : Hp} {L : List (Addr × List Int)} {cs : List Cell} (h : SetCs H L cs) : Paired (IsC H) (L.map fun q => Value.ref q.1) cs := by
  induction h with
  | nil => exact .nil
  | cons a _ ih => exact .cons ⟨_, rfl, a.1⟩ ih
theorem isC_out {H : Hp} : ∀ {vs : List Value} {cs : List Cell}, Paired (IsC H) vs cs → ∃ us, Vals us vs ∧ Paired (Enc.r H) us cs
  | _, _, .nil => ⟨[], .nil, .nil⟩
  | _, _, .cons ⟨b, e, h⟩ t => by
    obtain ⟨us, h1, h2⟩ := isC_out t
    exact ⟨.ref b :: us, .cons e h1, .cons ⟨b, _, _, rfl, h, rfl, rfl⟩ h2⟩
theorem each_to {a b : Type} {R : a → b → Prop} : ∀ {l : List a} {m : List b}, PySem.W.EachIs R l m → Paired R l m
  | _, _, .nil => .nil
  | _, _, .cons h t => .cons h (each_to t)
theorem to_each {a b : Type} {R : a → b → Prop} : ∀ {l : List a} {m : List b}, Paired R l m → PySem.W.EachIs R l m
  | _, _, .nil => .nil
  | _, _, .cons h t => .cons h (to_each t)
section
variable {X : Cx}
theorem isC_reads {pins : List (Addr × Obj)} {t : TSt} {H : Hp} {s : Shared} (I : Inv X pins t H s) {v : Value} {c : Cell} (h : IsC H v c) : Reads s.heap v (Enc.d c) [] := by
  obtain ⟨b, e, hb⟩ := h
  subst e
  obtain ⟨its, rv, ⟨o, ho, hc, n, hd⟩, _⟩ := I.tuple (.inl (.inl hb))
  obtain ⟨u1, u2, e, ⟨t1, r1⟩, ⟨t2, r2⟩⟩ := vals2 rv
  subst r1
  subst r2
  exact Reads.tuple ho hc hd (by rw [e]; exact ReadsAll.cons (.int _ _) (.cons (.int _ _) .nil))
/-- sorted(s), s a set of cells -/
def rSortSet (P : Program) (w : World) : List V → Hp → VK → Prop := fun vs H Q => ∃ (a : Addr) (L : List (Addr × List Int)) (cs : List Cell), vs = [V.ref a] ∧ H a = some (SetTO P w a L) ∧ SetCs H L cs ∧
  ∀ (us : List V) (p : Addr), Paired (Enc.r H) us (srt cs) → cs.Nodup → H p = none → Q (.ref p) (upd H p (.lst us))
theorem setCs_len {H : Hp} {L : List (Addr × List Int)} {cs : List Cell} (h : SetCs H L cs) : L.length = cs.length := Paired.length h
theorem setCs_snd {H : Hp} {L : List (Addr × List Int)} {cs : List Cell} (h : SetCs H L cs) : L.map (·.2) = cs.map fun c => [c.1, c.2] := by
  induction h with
  | nil => rfl
  | cons a _ ih => rw [List.map_cons, List.map_cons, ih, a.2]
theorem nodup_cs {cs : List Cell} (h : (cs.map fun c => [c.1, c.2]).Nodup) : cs.Nodup := by
  refine List.Pairwise.imp (fun {a b} h e => h ?_) (List.pairwise_map.mp h)
  rw [e]
theorem cr_sortSet (hc : X.calm = true) (hu : X.A.units + 64 < cLine) : CallR X (.builtin "sorted") (rSortSet X.prog X.w) := by
  intro pins s t H vs us Q I r ⟨a, L, cs, e, ha, hL, q⟩
  subst e
  have R0 : SetT0 X.prog X.w s.heap a L := (I.hok a _ ha).1
  obtain ⟨es, ep, tb, R⟩ := R0.full fun p hp => by
    obtain ⟨c, _, h1, h2⟩ := paired_mem hL hp
    exact L2.Inv.isT I (.inl (.inl (by rw [h1, h2]; rfl)))
  rw [Vals.ref1 r]
  obtain ⟨o, ho, hex, hd⟩ := R.ob
  have hsz := R.size
  have hfew := R.few
  have hcl := setCs_len hL
  refine Calls.call_function_entry PyProof.Rows.kind_sorted PyProof.Rows.plain_sorted PyProof.Rows.entry_sorted (PyProof.Rows.args_sorted1 _) ?_
  unfold Builtin.«sorted»
  refine wpAny_bind (m := checkCount "sorted" 1 1 _) (wpAny_pure ?_)
  refine wpAny_bind (collect_set (A := X.A.in1) (I.ok.hd hc) ⟨o, ho, hex.1, hd⟩ R.fits (by unfold scanBound; omega) R.tab.ris R.led fun s1 ws k1 hz g1 o1 pm => ?_)
  have hes : es.toList.map (·.2) = L.map fun q => Value.ref q.1 := by
    rw [R.rows]
    unfold rowsOf
    rw [List.map_map]
    rfl
  rw [hes] at pm
  obtain ⟨cs1, pc, hw⟩ := paired_perm (setCs_vals hL) pm
  have hlw : ws.length < 64 := by
    rw [hw.length, pc.length_eq, ← hcl]
    exact hfew
  refine wpAny_bind (wpAny_newList ?_ (by rw [sizeLine_eq]; omega))
  have hoL : (s1.heap.push (seqObj "list" ws.toArray 0)).get? s1.heap.objs.size = some (seqObj "list" ws.toArray 0) := Heap.get?_push_size _ rfl
  have hk2 : ∀ b u, s.heap.get? b = some u → (s1.heap.push (seqObj "list" ws.toArray 0)).get? b = some u := fun b u e => Heap.get?_push_of_some _ (k1 b u e)
  have er : PySem.W.EachIs (fun v (c : Cell) => ∃ as, Reads (s1.heap.push (seqObj "list" ws.toArray 0)) v (Enc.d c) as ∧ s1.heap.objs.size ∉ as) ws cs1 :=
    to_each (paired_map hw fun v c h => ⟨[], PyProof.Rows.Reads.keeps hk2 (isC_reads I h), List.not_mem_nil⟩)
  refine wpAny_bind (wpAny_holding (PySem.W.list_sort_data (s := { s1 with heap := s1.heap.push (seqObj "list" ws.toArray 0) }) (R := IsC H) (enc := Enc.d) hoL (to_each hw) er (PySem.W.AllAlike.of fun x y => EncO.alk x y)
    (PySem.W.Sortable.tuples fun c => ⟨_, _, rfl⟩) (by rw [← hw.length, sizeLine_eq]; omega) (fun c _ => by
      have h1 : (Enc.d c).depth ≤ 1 := Enc.dle c
      show X.A.units + 1 + 1 + _ < _
      omega) fun out hol eo => ?_))
  rw [le_eq] at eo
  have e1 : cs1.mergeSort le = srt cs := (srt_one (ys := srt cs) ((srt_perm cs).trans pc.symm) (srt_pw cs) : srt cs1 = srt cs)
  rw [e1] at eo
  obtain ⟨us', h1, h2⟩ := isC_out (each_to eo)
  obtain ⟨c, hcc⟩ := sortedHeap_at (vs := ws) (out := List.toArray out) hoL
  have hn : H s1.heap.objs.size = none := I.hok.fresh hz
  have hlen : us'.length ≤ sizeLine := by
    rw [h2.length, srt_len, ← hcl, sizeLine_eq]
    omega
  have k3 : ∀ b u, s.heap.get? b = some u → (sortedHeap (s1.heap.push (seqObj "list" ws.toArray 0)) s1.heap.objs.size ws (List.toArray out)).get? b = some u := fun b u e => by
    have q := k1 b u e
    have hlt := Heap.lt_size q
    rw [sortedHeap_old (Nat.ne_of_lt hlt) (by rw [size_push']; exact Nat.lt_succ_of_lt hlt)]
    exact Heap.get?_push_of_some _ q
  refine wpAny_pure ⟨_, rfl, ?_⟩
  have J := I.call (g' := s1.gens) (t' := s1.toks) (d' := s1.drawn) (ch := []) (Un.laid k3 hz hn) (I.hok.laid k3 hz (o := .lst us') ⟨hlen, out, c, h1, hcc⟩) (by rw [g1]; exact I.bare) (fun _ z => nomatch z)
  have e2 : ({ s1 with heap := sortedHeap (s1.heap.push (seqObj "list" ws.toArray 0)) s1.heap.objs.size ws (List.toArray out) } : Shared) = { s with heap := sortedHeap (s1.heap.push (seqObj "list" ws.toArray 0)) s1.heap.objs.size ws (List.toArray out), gens := s1.gens, drawn := s1.drawn, toks := s1.toks } := by
    cases s1
    cases s
    cases o1
    rfl
  show EP X pins t Q (.ref s1.heap.objs.size) { s1 with heap := sortedHeap (s1.heap.push (seqObj "list" ws.toArray 0)) s1.heap.objs.size ws (List.toArray out) }
  rw [e2]
  refine ⟨.ref _, _, J, rfl, q us' _ h2 (nodup_cs ?_) hn⟩
  rw [← setCs_snd hL]
  exact R.nd
end
end TB
set_option Elab.async false
set_option linter.all false
set_option maxRecDepth 100000
set_option maxHeartbeats 2000000
/-! TL: list comprehensions and loops over data. -/
namespace TB
open PySem PySem.Spec PyProof.Rows L2
section
variable {K : PySem.W.Frag} {s : TSt} {H : Hp} {te tl : TE} {tt : TT} {α β γ : Type} [DecidableEq α] [Enc α] [DecidableEq β] [Enc β] [DecidableEq γ] [Enc γ]

theorem take_fm {a b : Type} (p : a → Bool) (f : a → b) {l : List a} {i : Nat} {x : a} (h : l[i]? = some x) : ((l.take (i + 1)).filter p).map f = ((l.take i).filter p).map f ++ (if p x = true then [f x] else []) := by
  rw [take_succ_filter p l i x h, List.map_append]
  cases p x <;> rfl
/-- what holds between two turns of a comprehension -/
def LcInv (H1 : Hp) (D : Addr) (zs : List γ) (H' : Hp) : Prop := Ex H1 H' ∧ Ls H' D zs
theorem lcInv_0 {H1 : Hp} {D : Addr} (h : H1 D = none) : LcInv (γ := γ) H1 D [] (upd H1 D (.lst [])) := ⟨Ex.new h, [], upd_same, .nil⟩
/-- one turn, behind the target -/
theorem lc_turn {H1 H' : Hp} {D : Addr} {zs : List γ} {s2 : TSt} {b : Bool} {z : γ} {N : Hp → Prop} (hn : H1 D = none) (I : LcInv H1 D zs H') (hl : zs.length ≤ 1000000) (ht : EvB tt s2 H' b) (he : b = true → EvP te s2 H' (en z))
    (hN : ∀ H2, LcInv H1 D (zs ++ (if b = true then [z] else [])) H2 → N H2) :
    tt s2 H' fun b H3 => if b = true then te s2 H3 fun y H4 => ∃ acc, H4 D = some (.lst acc) ∧ acc.length < sizeLine ∧ N (upd H4 D (.lst (acc ++ [y]))) else N H3 := by
  refine ht H' Ex.same _ fun H3 e3 => ?_
  cases b with
  | false =>
    simp only [Bool.false_eq_true, if_false, List.append_nil] at hN ⊢
    exact hN H3 ⟨I.1.tr e3, I.2.up e3⟩
  | true =>
    simp only [if_true] at hN ⊢
    refine he rfl H3 e3 _ fun y H4 e4 hy => ?_
    obtain ⟨acc, g1, g2⟩ := (I.2.up e3).up e4
    have t := Tu.mutL (o := .lst (acc ++ [y])) g1
    exact ⟨acc, g1, by rw [g2.length]; exact sz_lt hl, hN _ ⟨((I.1.tr e3).tr e4).mut hn, acc ++ [y], upd_same, paired_app (paired_map g2 fun _ _ w => Enc.mono t w) (.cons (Enc.mono t hy) .nil)⟩⟩
/-- [e for x in t if ..], t a tuple -/
theorem en_lcT {i : Nat} {vs : List Nat} {xs : List α} {p : α → Bool} {f : α → γ} (h : EvP tl s H (en xs)) (hl : xs.length ≤ 1000000)
    (hb : ∀ x u H', x ∈ xs → Ex H H' → En H' u x → EvB tt ((wipe s vs).set i (some u)) H' (p x) ∧ (p x = true → EvP te ((wipe s vs).set i (some u)) H' (en (f x))))
    (hw : ∀ u, wipe ((wipe s vs).set i (some u)) vs = wipe s vs := by intro u; rfl) : EvN (tLc (iTup K tl) (gName i) tt te vs) s H ((xs.filter p).map f) := fun H1 e Q q =>
  h H1 e _ fun v H2 e2 ⟨a, us, ev, ha, hp⟩ => by
    subst ev
    refine ⟨a, rfl, ⟨us, .inl (.inl ha)⟩, fun D hD => lc_tup (K := K) (a := a) (xs := us) (fun i H' => LcInv H2 D (((xs.take i).filter p).map f) H') (lcInv_0 hD) (fun i H' _ I => .inl (.inl (I.1 _ _ ha))) (fun i u H' hu I => ?_) fun H' I => ?_⟩
    · obtain ⟨x, hx, hr⟩ := paired_getL hp hu
      obtain ⟨b1, b2⟩ := hb x u H' (List.mem_of_getElem? hx) ((e.tr e2).tr I.1) (en_up I.1 hr)
      refine ⟨hw u, lc_turn hD I ?_ b1 b2 fun H2 I2 => ?_⟩
      · rw [List.length_map]
        exact Nat.le_trans (List.length_filter_le _ _) (by rw [List.length_take]; omega)
      · rw [take_fm p f hx]
        exact I2
    · rw [hp.length, List.take_length] at I
      exact q D H' (e2.back hD) (e2.tr I.1) I.2
/-- .. over a list -/
theorem en_lcL {i : Nat} {vs : List Nat} {xs : List α} {p : α → Bool} {f : α → γ} (h : EvP tl s H (li xs)) (hl : xs.length ≤ 1000000)
    (hb : ∀ x u H', x ∈ xs → Ex H H' → En H' u x → EvB tt ((wipe s vs).set i (some u)) H' (p x) ∧ (p x = true → EvP te ((wipe s vs).set i (some u)) H' (en (f x))))
    (hw : ∀ u, wipe ((wipe s vs).set i (some u)) vs = wipe s vs := by intro u; rfl) : EvN (tLc (iList K tl) (gName i) tt te vs) s H ((xs.filter p).map f) := fun H1 e Q q =>
  h H1 e _ fun v H2 e2 ⟨a, ev, us, ha, hp⟩ => by
    subst ev
    refine ⟨a, rfl, ⟨us, .inl (.inl ha)⟩, fun D hD => lc_list (K := K) (a := a) (xs := us) (fun i H' => LcInv H2 D (((xs.take i).filter p).map f) H') (lcInv_0 hD) (fun i H' _ I => .inl (.inl (I.1 _ _ ha))) (fun i u H' hu I => ?_) fun H' I => ?_⟩
    · obtain ⟨x, hx, hr⟩ := paired_getL hp hu
      obtain ⟨b1, b2⟩ := hb x u H' (List.mem_of_getElem? hx) ((e.tr e2).tr I.1) (en_up I.1 hr)
      refine ⟨hw u, lc_turn hD I ?_ b1 b2 fun H2 I2 => ?_⟩
      · rw [List.length_map]
        exact Nat.le_trans (List.length_filter_le _ _) (by rw [List.length_take]; omega)
      · rw [take_fm p f hx]
        exact I2
    · rw [hp.length, List.take_length] at I
      exact q D H' (e2.back hD) (e2.tr I.1) I.2
/-- [e for a, b in xs if ..] over a list of pairs -/
theorem en_lcP {i j : Nat} {vs : List Nat} {xs : List (α × β)} {p : α × β → Bool} {f : α × β → γ} (h : EvP tl s H (li xs)) (hl : xs.length ≤ 1000000)
    (hb : ∀ x u w H', x ∈ xs → Ex H H' → En H' u x.1 → En H' w x.2 → EvB tt (((wipe s vs).set i (some u)).set j (some w)) H' (p x) ∧ (p x = true → EvP te (((wipe s vs).set i (some u)).set j (some w)) H' (en (f x))))
    (hw : ∀ u w, wipe (((wipe s vs).set i (some u)).set j (some w)) vs = wipe s vs := by intro u w; rfl) :
    EvN (tLc (iList K tl) (gTup K 2 (gCons (gName i) (gCons (gName j) gNil))) tt te vs) s H ((xs.filter p).map f) := fun H1 e Q q =>
  h H1 e _ fun v H2 e2 ⟨a, ev, us, ha, hp⟩ => by
    subst ev
    refine ⟨a, rfl, ⟨us, .inl (.inl ha)⟩, fun D hD => lc_list (K := K) (a := a) (xs := us) (fun i H' => LcInv H2 D (((xs.take i).filter p).map f) H') (lcInv_0 hD) (fun i H' _ I => .inl (.inl (I.1 _ _ ha))) (fun i u H' hu I => ?_) fun H' I => ?_⟩
    · obtain ⟨x, hx, hr⟩ := paired_getL hp hu
      obtain ⟨t, u1, u2, eu, h1, h2, h3⟩ := en_up I.1 hr
      subst eu
      obtain ⟨b1, b2⟩ := hb x u1 u2 H' (List.mem_of_getElem? hx) ((e.tr e2).tr I.1) h2 h3
      refine ⟨t, [u1, u2], rfl, .inl (.inl h1), rfl, u1, [u2], rfl, u2, [], rfl, rfl, hw u1 u2, lc_turn hD I ?_ b1 b2 fun H2 I2 => ?_⟩
      · rw [List.length_map]
        exact Nat.le_trans (List.length_filter_le _ _) (by rw [List.length_take]; omega)
      · rw [take_fm p f hx]
        exact I2
    · rw [hp.length, List.take_length] at I
      exact q D H' (e2.back hD) (e2.tr I.1) I.2
/-- the ints of a range -/
def rng (lo : Int) (n : Nat) : List Int := (List.range n).map fun (k : Nat) => lo + (k : Int)
theorem rng_len (lo : Int) (n : Nat) : (rng lo n).length = n := by simp [rng]
theorem rng_at (lo : Int) {n i : Nat} (h : i < n) : (rng lo n)[i]? = some (lo + (i : Int)) := by simp [rng, h]
theorem mem_rng {lo x : Int} {n : Nat} : x ∈ rng lo n ↔ lo ≤ x ∧ x < lo + n := by
  unfold rng
  rw [List.mem_map]
  constructor
  · rintro ⟨k, hk, rfl⟩
    rw [List.mem_range] at hk
    omega
  · rintro ⟨h1, h2⟩
    exact ⟨(x - lo).toNat, by rw [List.mem_range]; omega, by omega⟩
theorem en_lcR1 {tr : TA} {i : Nat} {vs : List Nat} {n : Int} {p : Int → Bool} {f : Int → γ} (h : EvA tr s H [en n]) (hl : n ≤ 1000000) (hl0 : -1000000 ≤ n)
    (hb : ∀ x H', x ∈ rng 0 n.toNat → Ex H H' → EvB tt ((wipe s vs).set i (some (.int x))) H' (p x) ∧ (p x = true → EvP te ((wipe s vs).set i (some (.int x))) H' (en (f x))))
    (hw : ∀ u, wipe ((wipe s vs).set i (some u)) vs = wipe s vs := by intro u; rfl) : EvN (tLc (iRng1 tr) (gName i) tt te vs) s H (((rng 0 n.toNat).filter p).map f) := fun H1 e Q q =>
  h H1 e _ fun ws H2 e2 hv => by
    cases hv with
    | cons hv0 hv1 =>
      cases hv1
      rename_i v0
      obtain rfl : v0 = .int n := hv0
      refine ⟨n, rfl, by omega, by omega, fun D hD => lc_range (lo := 0) (n := n.toNat) (fun i H' => LcInv H2 D ((((rng 0 n.toNat).take i).filter p).map f) H') (lcInv_0 hD) (fun i H' hi I => ?_) fun H' I => ?_⟩
      · have hx := rng_at 0 hi
        obtain ⟨b1, b2⟩ := hb _ H' (List.mem_of_getElem? hx) ((e.tr e2).tr I.1)
        refine ⟨hw _, lc_turn hD I ?_ b1 b2 fun H2 I2 => ?_⟩
        · rw [List.length_map]
          exact Nat.le_trans (List.length_filter_le _ _) (by rw [List.length_take, rng_len]; omega)
        · rw [take_fm p f hx]
          exact I2
      · rw [List.take_of_length_le (by rw [rng_len]; exact Nat.le_refl _)] at I
        exact q D H' (e2.back hD) (e2.tr I.1) I.2
theorem en_lcR2 {tr : TA} {i : Nat} {vs : List Nat} {lo n : Int} {p : Int → Bool} {f : Int → γ} (h : EvA tr s H [en lo, en n]) (hl : -1000000 ≤ lo ∧ lo ≤ 1000000 ∧ -1000000 ≤ n ∧ n ≤ 1000000 ∧ n - lo ≤ 1000000)
    (hb : ∀ x H', x ∈ rng lo (n - lo).toNat → Ex H H' → EvB tt ((wipe s vs).set i (some (.int x))) H' (p x) ∧ (p x = true → EvP te ((wipe s vs).set i (some (.int x))) H' (en (f x))))
    (hw : ∀ u, wipe ((wipe s vs).set i (some u)) vs = wipe s vs := by intro u; rfl) : EvN (tLc (iRng2 tr) (gName i) tt te vs) s H (((rng lo (n - lo).toNat).filter p).map f) := fun H1 e Q q =>
  h H1 e _ fun ws H2 e2 hv => by
    cases hv with
    | cons hv0 hv1 =>
      cases hv1 with
      | cons hv1 hv2 =>
        cases hv2
        rename_i v0 v1
        obtain rfl : v0 = .int lo := hv0
        obtain rfl : v1 = .int n := hv1
        refine ⟨lo, n, rfl, by omega, fun D hD => lc_range (lo := lo) (n := (n - lo).toNat) (fun i H' => LcInv H2 D ((((rng lo (n - lo).toNat).take i).filter p).map f) H') (lcInv_0 hD) (fun i H' hi I => ?_) fun H' I => ?_⟩
        · have hx := rng_at lo hi
          obtain ⟨b1, b2⟩ := hb _ H' (List.mem_of_getElem? hx) ((e.tr e2).tr I.1)
          refine ⟨hw _, lc_turn hD I ?_ b1 b2 fun H2 I2 => ?_⟩
          · rw [List.length_map]
            exact Nat.le_trans (List.length_filter_le _ _) (by rw [List.length_take, rng_len]; omega)
          · rw [take_fm p f hx]
            exact I2
        · rw [List.take_of_length_le (by rw [rng_len]; exact Nat.le_refl _)] at I
          exact q D H' (e2.back hD) (e2.tr I.1) I.2

/-! ### loops -/
variable {D : Ends} {tu : TS} {g : TG}
/-- a loop's own ends -/
abbrev turnEnds (D : Ends) (Pv : Nat → TSt → Hp → Prop) (i : Nat) : Ends := { D with nx := Pv (i + 1), ct := Pv (i + 1), bk := D.nx }
theorem s_forT {xs : List α} (h : EvP tl s H (en xs)) (k : ∀ H1, Ex H H1 → ∃ Pv : Nat → TSt → Hp → Prop, Pv 0 s H1 ∧ (∀ i s' H', Pv i s' H' → Tu H1 H') ∧
      (∀ i x u s' H', xs[i]? = some x → En H' u x → Pv i s' H' → g u s' H' fun s2 H2 => tu (turnEnds D Pv i) s2 H2) ∧ (∀ s' H', Pv xs.length s' H' → D.nx s' H')) : tFor (iTup K tl) g tu D s H :=
  h H Ex.same _ fun v H1 e ⟨a, us, ev, ha, hp⟩ => by
    subst ev
    obtain ⟨Pv, h0, ht, hs, hd⟩ := k H1 e
    refine ⟨a, rfl, ⟨us, .inl (.inl ha)⟩, for_tup (xs := us) Pv h0 (fun i s' H' _ P => .inl (.inl (ht i s' H' P _ _ ha))) (fun i u s' H' hu P => ?_) fun s' H' P => hd s' H' (by rw [← hp.length]; exact P)⟩
    obtain ⟨x, hx, hr⟩ := paired_getL hp hu
    exact hs i x u s' H' hx (Enc.mono (ht i s' H' P) hr) P
/-- over the list at p, which the body leaves -/
theorem s_forL {xs : List α} (h : EvP tl s H (li xs)) (k : ∀ H1 p us, Ex H H1 → H1 p = some (.lst us) → Paired (Enc.r H1) us xs → ∃ Pv : Nat → TSt → Hp → Prop, Pv 0 s H1 ∧ (∀ i s' H', Pv i s' H' → Tu H1 H' ∧ H' p = some (.lst us)) ∧
      (∀ i x u s' H', xs[i]? = some x → En H' u x → Pv i s' H' → g u s' H' fun s2 H2 => tu (turnEnds D Pv i) s2 H2) ∧ (∀ s' H', Pv xs.length s' H' → D.nx s' H')) : tFor (iList K tl) g tu D s H :=
  h H Ex.same _ fun v H1 e ⟨a, ev, us, ha, hp⟩ => by
    subst ev
    obtain ⟨Pv, h0, ht, hs, hd⟩ := k H1 a us e ha hp
    refine ⟨a, rfl, ⟨us, .inl (.inl ha)⟩, for_list (xs := us) Pv h0 (fun i s' H' _ P => .inl (.inl (ht i s' H' P).2)) (fun i u s' H' hu P => ?_) fun s' H' P => hd s' H' (by rw [← hp.length]; exact P)⟩
    obtain ⟨x, hx, hr⟩ := paired_getL hp hu
    exact hs i x u s' H' hx (Enc.mono (ht i s' H' P).1 hr) P
theorem s_forR1 {tr : TA} {n : Int} (h : EvA tr s H [en n]) (hn : -1000000 ≤ n ∧ n ≤ 1000000000) (k : ∀ H1, Ex H H1 → ∃ Pv : Nat → TSt → Hp → Prop, Pv 0 s H1 ∧
      (∀ (i : Nat) s' H', (i : Int) < n → Pv i s' H' → g (.int (i : Int)) s' H' fun s2 H2 => tu (turnEnds D Pv i) s2 H2) ∧ (∀ s' H', Pv n.toNat s' H' → D.nx s' H')) : tFor (iRng1 tr) g tu D s H :=
  h H Ex.same _ fun vs H1 e hv => by
    cases hv with
    | cons hv0 hv1 =>
      cases hv1
      rename_i v0
      obtain rfl : v0 = .int n := hv0
      obtain ⟨Pv, h0, hs, hd⟩ := k H1 e
      refine ⟨n, rfl, by omega, by omega, for_range (lo := 0) (n := n.toNat) Pv h0 (fun i s' H' hi P => ?_) hd⟩
      rw [Int.zero_add]
      exact hs i s' H' (by omega) P
theorem s_forR2 {tr : TA} {lo n : Int} (h : EvA tr s H [en lo, en n]) (hn : -1000000 ≤ lo ∧ lo ≤ 1000000000 ∧ -1000000 ≤ n ∧ n ≤ 1000000000) (k : ∀ H1, Ex H H1 → ∃ Pv : Nat → TSt → Hp → Prop, Pv 0 s H1 ∧
      (∀ (i : Nat) s' H', lo + (i : Int) < n → Pv i s' H' → g (.int (lo + (i : Int))) s' H' fun s2 H2 => tu (turnEnds D Pv i) s2 H2) ∧ (∀ s' H', Pv (n - lo).toNat s' H' → D.nx s' H')) : tFor (iRng2 tr) g tu D s H :=
  h H Ex.same _ fun vs H1 e hv => by
    cases hv with
    | cons hv0 hv1 =>
      cases hv1 with
      | cons hv1 hv2 =>
        cases hv2
        rename_i v0 v1
        obtain rfl : v0 = .int lo := hv0
        obtain rfl : v1 = .int n := hv1
        obtain ⟨Pv, h0, hs, hd⟩ := k H1 e
        exact ⟨lo, n, rfl, by omega, for_range (lo := lo) (n := (n - lo).toNat) Pv h0 (fun i s' H' hi P => hs i s' H' (by omega) P) hd⟩
/-- a pair given to two names -/
theorem g_pair {i j : Nat} {x : α × β} {u : V} {s' : TSt} {H' : Hp} {Q : TSt → Hp → Prop} (h : En H' u x) (k : ∀ v w, En H' v x.1 → En H' w x.2 → Q ((s'.set i (some v)).set j (some w)) H') : gTup K 2 (gCons (gName i) (gCons (gName j) gNil)) u s' H' Q := by
  obtain ⟨a, v, w, e, h1, h2, h3⟩ := h
  exact ⟨a, [v, w], e, .inl (.inl h1), rfl, v, [w], rfl, w, [], rfl, rfl, k v w h2 h3⟩
/-- a, b = e, e a pair -/
theorem s_asgP {i j : Nat} {x : α × β} (h : EvP te s H (en x)) (k : ∀ v w H1, Ex H H1 → En H1 v x.1 → En H1 w x.2 → D.nx ((s.set i (some v)).set j (some w)) H1) : tAsg te (gTup K 2 (gCons (gName i) (gCons (gName j) gNil))) D s H :=
  h H Ex.same _ fun v H1 e hv => g_pair hv fun v w h1 h2 => k v w H1 e h1 h2
end
end TB
set_option Elab.async false
set_option linter.all false
set_option maxRecDepth 100000
set_option maxHeartbeats 2000000
/-! TD: dicts by cells, typed. -/
namespace TB
open PySem PySem.Spec PyProof.Rows L2

theorem ru1 {k : Nat} {A : Around} (r : Room k A) : A.units + 1 < cLine := by have := r.un; omega
theorem ru0 {k : Nat} {A : Around} (r : Room k A) : A.units < cLine := by have := r.un; omega
theorem ru64 {k : Nat} {A : Around} (r : Room k A) : A.units + 64 < cLine := by have := r.un; omega
theorem ru65 {k : Nat} {A : Around} (r : Room k A) : A.units + 65 < cLine := by have := r.un; omega

section
variable {κ β : Type} [DecidableEq κ]
def dget (kvs : List (κ × β)) (k : κ) : Option β := (kvs.find? fun p => decide (p.1 = k)).map (·.2)
def dput (kvs : List (κ × β)) (k : κ) (v : β) : List (κ × β) := if (kvs.any fun p => decide (p.1 = k)) = true then kvs.map (fun p => if p.1 = k then (p.1, v) else p) else kvs ++ [(k, v)]
def ddel (kvs : List (κ × β)) (k : κ) : List (κ × β) := kvs.filter fun p => decide (p.1 ≠ k)
theorem dget_nil {k : κ} : dget ([] : List (κ × β)) k = none := rfl
theorem dget_cons {p : κ × β} {r : List (κ × β)} {k : κ} : dget (p :: r) k = if p.1 = k then some p.2 else dget r k := by
  unfold dget
  by_cases h : p.1 = k
  · simp [List.find?_cons, h]
  · simp [List.find?_cons, h]
theorem dget_mem {kvs : List (κ × β)} {k : κ} {v : β} (h : dget kvs k = some v) : (k, v) ∈ kvs := by
  induction kvs with
  | nil => cases h
  | cons p r ih =>
    rw [dget_cons] at h
    by_cases e : p.1 = k
    · rw [if_pos e] at h
      cases h
      rw [← e]
      exact List.mem_cons_self
    · rw [if_neg e] at h
      exact List.mem_cons_of_mem _ (ih h)
theorem dget_some {kvs : List (κ × β)} {k : κ} : (dget kvs k).isSome = true ↔ k ∈ kvs.map (·.1) := by
  induction kvs with
  | nil => simp [dget_nil]
  | cons p r ih =>
    rw [dget_cons, List.map_cons, List.mem_cons]
    by_cases e : p.1 = k
    · simp [e]
    · rw [if_neg e, ih]
      constructor
      · exact .inr
      · rintro (h | h)
        · exact absurd h.symm e
        · exact h
theorem dget_none {kvs : List (κ × β)} {k : κ} : dget kvs k = none ↔ k ∉ kvs.map (·.1) := by
  rw [← dget_some]
  cases dget kvs k <;> simp
theorem dget_app_none {a b : List (κ × β)} {k : κ} (h : dget a k = none) : dget (a ++ b) k = dget b k := by
  induction a with
  | nil => rfl
  | cons p r ih =>
    rw [dget_cons] at h
    rw [List.cons_append, dget_cons]
    by_cases e : p.1 = k
    · rw [if_pos e] at h
      cases h
    · rw [if_neg e] at h ⊢
      exact ih h
theorem dget_map {kvs : List (κ × β)} {k j : κ} {v : β} : dget (kvs.map fun p => if p.1 = k then (p.1, v) else p) j = if j = k then (dget kvs j).map (fun _ => v) else dget kvs j := by
  induction kvs with
  | nil => simp [dget_nil]
  | cons p r ih =>
    rw [List.map_cons, dget_cons, dget_cons, ih]
    by_cases e : p.1 = k
    · rw [if_pos e]
      by_cases ej : p.1 = j
      · have : j = k := ej.symm.trans e
        simp [ej, this]
      · have : ¬ j = k := fun z => ej (e.trans z.symm)
        simp [ej, this]
    · rw [if_neg e]
      by_cases ej : p.1 = j
      · have : ¬ j = k := fun z => e (ej.trans z)
        simp [ej, this]
      · simp [ej]
theorem any_dget {kvs : List (κ × β)} {k : κ} : (kvs.any fun p => decide (p.1 = k)) = (dget kvs k).isSome := by
  induction kvs with
  | nil => rfl
  | cons p r ih =>
    rw [List.any_cons, ih, dget_cons]
    by_cases e : p.1 = k
    · simp [e]
    · simp [e]
theorem dget_put {kvs : List (κ × β)} {k j : κ} {v : β} : dget (dput kvs k v) j = if j = k then some v else dget kvs j := by
  unfold dput
  rw [any_dget]
  cases h : dget kvs k with
  | none =>
    simp only [Option.isSome_none, Bool.false_eq_true, if_false]
    by_cases e : j = k
    · subst e
      rw [dget_app_none h, dget_cons, if_pos rfl, if_pos rfl]
    · rw [if_neg e]
      cases hj : dget kvs j with
      | none => rw [dget_app_none hj, dget_cons, if_neg fun z => e z.symm, dget_nil]
      | some u =>
        have : ∀ a b : List (κ × β), dget a j = some u → dget (a ++ b) j = some u := by
          intro a b
          induction a with
          | nil => intro q; cases q
          | cons p r ih =>
            rw [List.cons_append, dget_cons, dget_cons]
            by_cases e : p.1 = j
            · simp [e]
            · simp only [if_neg e]
              exact ih
        exact this _ _ hj
  | some u =>
    simp only [Option.isSome_some, if_true]
    rw [dget_map]
    by_cases e : j = k
    · subst e
      simp [h]
    · simp [e]
theorem dput_new {kvs : List (κ × β)} {k : κ} {v : β} (h : dget kvs k = none) : dput kvs k v = kvs ++ [(k, v)] := by
  unfold dput
  rw [any_dget, h]
  rfl
theorem dput_keys {kvs : List (κ × β)} {k : κ} {v : β} : (dput kvs k v).map (·.1) = if k ∈ kvs.map (·.1) then kvs.map (·.1) else kvs.map (·.1) ++ [k] := by
  unfold dput
  rw [any_dget]
  by_cases h : k ∈ kvs.map (·.1)
  · rw [if_pos h, if_pos (dget_some.mpr h), List.map_map]
    refine List.map_congr_left fun p _ => ?_
    show (if p.1 = k then (p.1, v) else p).1 = p.1
    split <;> rfl
  · have : dget kvs k = none := dget_none.mpr h
    rw [if_neg h, this]
    simp
theorem dput_len {kvs : List (κ × β)} {k : κ} {v : β} : (dput kvs k v).length ≤ kvs.length + 1 := by
  unfold dput
  split
  · rw [List.length_map]
    omega
  · simp
theorem dget_del {kvs : List (κ × β)} {k j : κ} : dget (ddel kvs k) j = if j = k then none else dget kvs j := by
  induction kvs with
  | nil => simp [ddel, dget_nil]
  | cons p r ih =>
    unfold ddel at ih ⊢
    rw [List.filter_cons, dget_cons]
    by_cases e : p.1 = k
    · rw [if_neg (by simp [e]), ih]
      by_cases ej : j = k
      · simp [ej]
      · have : ¬ p.1 = j := fun z => ej (z.symm.trans e)
        simp [ej, this]
    · rw [if_pos (by simp [e]), dget_cons, ih]
      by_cases ej : j = k
      · have : ¬ p.1 = j := fun z => e (z.trans ej)
        simp [ej, this]
        intro z
        exact absurd z e
      · simp [ej]
theorem ddel_keys {kvs : List (κ × β)} {k : κ} : (ddel kvs k).map (·.1) = (kvs.map (·.1)).filter fun x => decide (x ≠ k) := by
  unfold ddel
  rw [List.filter_map]
  rfl
end

/-- a cell as a key -/
def ck (c : Cell) : List Key := [.inl c.1, .inl c.2]
theorem ck_inj {a b : Cell} (h : ck a = ck b) : a = b := by
  unfold ck at h
  injection h with h1 h2
  injection h2 with h2 _
  exact Prod.ext (Sum.inl.inj h1) (Sum.inl.inj h2)
theorem ck_kV (c : Cell) : (ck c).map kV = [.int c.1, .int c.2] := rfl
section
variable {β : Type} [DecidableEq β] [Enc β]
/-- the dict at d, by cells -/
def Dc (H : Hp) (d : Addr) (kvs : List (Cell × β)) : Prop := ∃ us, H d = some (.dT us) ∧ Paired (fun (p : List Key × V) (q : Cell × β) => p.1 = ck q.1 ∧ Enc.r H p.2 q.2) us kvs
theorem Dc.up {H H' : Hp} {d : Addr} {kvs : List (Cell × β)} (h : Dc H d kvs) (e : Ex H H') : Dc H' d kvs := by
  obtain ⟨us, h1, h2⟩ := h
  exact ⟨us, e _ _ h1, paired_map h2 fun _ _ z => ⟨z.1, en_up e z.2⟩⟩
theorem Dc.upd {H : Hp} {d q : Addr} {o : HO} {kvs : List (Cell × β)} (h : Dc H d kvs) (n : d ≠ q) (t : Tu H (upd H q o)) : Dc (upd H q o) d kvs := by
  obtain ⟨us, h1, h2⟩ := h
  exact ⟨us, by rw [upd_ne n]; exact h1, paired_map h2 fun _ _ z => ⟨z.1, Enc.mono t z.2⟩⟩
theorem Dc.to {H H' : Hp} {d : Addr} {kvs : List (Cell × β)} (h : Dc H d kvs) (e : H' d = H d) (t : Tu H H') : Dc H' d kvs := by
  obtain ⟨us, h1, h2⟩ := h
  exact ⟨us, by rw [e]; exact h1, paired_map h2 fun _ _ z => ⟨z.1, Enc.mono t z.2⟩⟩
def dc (d : Addr) (kvs : List (Cell × β)) : Pd := ⟨fun H v => v = .ref d ∧ Dc H d kvs, fun e ⟨h1, h2⟩ => ⟨h1, h2.up e⟩⟩
/-- some dict by cells -/
def ds (kvs : List (Cell × β)) : Pd := ⟨fun H v => ∃ d, v = .ref d ∧ Dc H d kvs, fun e ⟨d, h1, h2⟩ => ⟨d, h1, h2.up e⟩⟩
theorem val_of {H : Hp} {us : List (List Key × V)} {kvs : List (Cell × β)} (h : Paired (fun (p : List Key × V) (q : Cell × β) => p.1 = ck q.1 ∧ Enc.r H p.2 q.2) us kvs) (c : Cell) :
    (valV us (ck c) = none ∧ dget kvs c = none) ∨ ∃ v x, valV us (ck c) = some v ∧ dget kvs c = some x ∧ Enc.r H v x := by
  induction h with
  | nil => exact .inl ⟨rfl, rfl⟩
  | @cons p q us kvs a t ih =>
    obtain ⟨a1, a2⟩ := a
    by_cases e : q.1 = c
    · have e2 : p.1 = ck c := by rw [a1, e]
      exact .inr ⟨p.2, q.2, valV_pos e2, by rw [dget_cons, if_pos e], a2⟩
    · have e2 : ¬ p.1 = ck c := fun z => e (ck_inj (a1.symm.trans z))
      rw [valV_neg e2, dget_cons, if_neg e]
      exact ih
theorem val_some {H : Hp} {us : List (List Key × V)} {kvs : List (Cell × β)} (h : Paired (fun (p : List Key × V) (q : Cell × β) => p.1 = ck q.1 ∧ Enc.r H p.2 q.2) us kvs) (c : Cell) : (valV us (ck c)).isSome = (dget kvs c).isSome := by
  rcases val_of h c with ⟨h1, h2⟩ | ⟨v, x, h1, h2, _⟩
  · rw [h1, h2]
    rfl
  · rw [h1, h2]
    rfl
theorem put_of {H : Hp} {us : List (List Key × V)} {kvs : List (Cell × β)} {v : V} {x : β} (h : Paired (fun (p : List Key × V) (q : Cell × β) => p.1 = ck q.1 ∧ Enc.r H p.2 q.2) us kvs) (c : Cell) (hv : Enc.r H v x) :
    Paired (fun (p : List Key × V) (q : Cell × β) => p.1 = ck q.1 ∧ Enc.r H p.2 q.2) (putK us (ck c) v) (dput kvs c x) := by
  unfold putK dput
  rw [valV_any, any_dget, val_some h c]
  cases (dget kvs c).isSome with
  | false => exact paired_app h (.cons ⟨rfl, hv⟩ .nil)
  | true =>
    simp only [if_true]
    induction h with
    | nil => exact .nil
    | @cons p q us kvs a t ih =>
      obtain ⟨a1, a2⟩ := a
      rw [List.map_cons, List.map_cons]
      refine .cons ?_ ih
      by_cases e : q.1 = c
      · have e2 : p.1 = ck c := by rw [a1, e]
        rw [if_pos e2, if_pos e]
        exact ⟨a1, hv⟩
      · have e2 : ¬ p.1 = ck c := fun z => e (ck_inj (a1.symm.trans z))
        rw [if_neg e2, if_neg e]
        exact ⟨a1, a2⟩
theorem del_of {H : Hp} {us : List (List Key × V)} {kvs : List (Cell × β)} (h : Paired (fun (p : List Key × V) (q : Cell × β) => p.1 = ck q.1 ∧ Enc.r H p.2 q.2) us kvs) (c : Cell) :
    Paired (fun (p : List Key × V) (q : Cell × β) => p.1 = ck q.1 ∧ Enc.r H p.2 q.2) (dropK us (ck c)) (ddel kvs c) := by
  unfold dropK ddel
  induction h with
  | nil => exact .nil
  | @cons p q us kvs a t ih =>
    obtain ⟨a1, a2⟩ := a
    rw [List.filter_cons, List.filter_cons]
    by_cases e : q.1 = c
    · have e2 : p.1 = ck c := by rw [a1, e]
      rw [if_neg (by simp [e2]), if_neg (by simp [e])]
      exact ih
    · have e2 : ¬ p.1 = ck c := fun z => e (ck_inj (a1.symm.trans z))
      rw [if_pos (by simp [e2]), if_pos (by simp [e])]
      exact .cons ⟨a1, a2⟩ ih
variable {s : TSt} {H H' : Hp} {ta tb te td ty tv tx : TE} {D : Ends}
theorem cell_at {c : Cell} {v : V} (h : En H v c) : ∃ b, v = .ref b ∧ H b = some (.tup ((ck c).map kV)) := by
  obtain ⟨a, u, w, e, h1, h2, h3⟩ := h
  obtain rfl : u = .int c.1 := h2
  obtain rfl : w = .int c.2 := h3
  exact ⟨a, e, h1⟩
theorem ev_inD {c : Cell} {kvs : List (Cell × β)} (hc : EvP ty s H (en c)) (hd : EvP td s H (ds kvs)) : EvP (tDIn ty td) s H (en (dget kvs c).isSome) := fun H1 e Q q =>
  hc H1 e _ fun v H2 e2 hv => hd H2 (e.tr e2) _ fun w H3 e3 ⟨d, ew, us, hd, hp⟩ => by
    obtain ⟨b, ev, hb⟩ := cell_at (en_up e3 hv)
    subst ev
    exact ⟨d, _, ew, DGet.t hd hb, q _ H3 (e2.tr e3) (by rw [val_some hp c]; exact rfl)⟩
theorem ev_niD {c : Cell} {kvs : List (Cell × β)} (hc : EvP ty s H (en c)) (hd : EvP td s H (ds kvs)) : EvP (tDNotIn ty td) s H (en (!(dget kvs c).isSome)) := fun H1 e Q q =>
  hc H1 e _ fun v H2 e2 hv => hd H2 (e.tr e2) _ fun w H3 e3 ⟨d, ew, us, hd, hp⟩ => by
    obtain ⟨b, ev, hb⟩ := cell_at (en_up e3 hv)
    subst ev
    exact ⟨d, _, ew, DGet.t hd hb, q _ H3 (e2.tr e3) (by rw [val_some hp c]; exact rfl)⟩
theorem ev_dget {c : Cell} {kvs : List (Cell × β)} {x : β} (hd : EvP td s H (ds kvs)) (hc : EvP ty s H (en c)) (hx : dget kvs c = some x) : EvP (tDGet td ty) s H (en x) := fun H1 e Q q =>
  hd H1 e _ fun w H2 e2 hw => hc H2 (e.tr e2) _ fun v H3 e3 hv => by
    obtain ⟨d, ew, us, hd, hp⟩ := (ds kvs).up e3 hw
    obtain ⟨b, ev, hb⟩ := cell_at hv
    subst ev
    rcases val_of hp c with ⟨_, h2⟩ | ⟨v, y, h1, h2, h3⟩
    · rw [hx] at h2
      cases h2
    · rw [hx] at h2
      cases h2
      exact ⟨d, v, ew, h1 ▸ DGet.t hd hb, q _ H3 (e2.tr e3) h3⟩
/-- d.get(c, x) -/
theorem ev_get2 {c : Cell} {kvs : List (Cell × β)} {x : β} (hd : EvP td s H (ds kvs)) (hc : EvP ty s H (en c)) (hx : EvP tx s H (en x)) : EvP (tDGet2 td ty tx) s H (en ((dget kvs c).getD x)) := fun H1 e Q q =>
  hd H1 e _ fun w H2 e2 hw => by
    obtain ⟨d, ew, us, hd0, hp0⟩ := id hw
    refine ⟨d, ew, .inr ⟨us, .inl hd0⟩, hc H2 (e.tr e2) _ fun v H3 e3 hv => hx H3 ((e.tr e2).tr e3) _ fun z H4 e4 hz => ?_⟩
    obtain ⟨d', ew', us', hd, hp⟩ := (ds kvs).up (e3.tr e4) hw
    rw [ew] at ew'
    cases ew'
    obtain ⟨b, ev, hb⟩ := cell_at (en_up e4 hv)
    subst ev
    refine ⟨_, DGet.t hd hb, ?_⟩
    rcases val_of hp c with ⟨h1, h2⟩ | ⟨v, y, h1, h2, h3⟩
    · rw [h1]
      exact q _ H4 ((e2.tr e3).tr e4) (by rw [h2]; exact hz)
    · rw [h1]
      exact q _ H4 ((e2.tr e3).tr e4) (by rw [h2]; exact h3)
/-- d.get(c) -/
theorem ev_get1 {c : Cell} {kvs : List (Cell × β)} {P : Pd} (hd : EvP td s H (ds kvs)) (hc : EvP ty s H (en c)) (hn : dget kvs c = none → ∀ H, P.p H .non) (hs : ∀ x, dget kvs c = some x → ∀ H v, Enc.r H v x → P.p H v) : EvP (tDGet1 td ty) s H P := fun H1 e Q q =>
  hd H1 e _ fun w H2 e2 hw => by
    obtain ⟨d, ew, us, hd0, hp0⟩ := id hw
    refine ⟨d, ew, .inr ⟨us, .inl hd0⟩, hc H2 (e.tr e2) _ fun v H3 e3 hv => ?_⟩
    obtain ⟨d', ew', us', hd, hp⟩ := (ds kvs).up e3 hw
    rw [ew] at ew'
    cases ew'
    obtain ⟨b, ev, hb⟩ := cell_at hv
    subst ev
    refine ⟨_, DGet.t hd hb, ?_⟩
    rcases val_of hp c with ⟨h1, h2⟩ | ⟨v, y, h1, h2, h3⟩
    · rw [h1]
      exact q _ H3 (e2.tr e3) (hn h2 _)
    · rw [h1]
      exact q _ H3 (e2.tr e3) (hs y h2 _ _ h3)
/-- d[c] = e -/
theorem s_dput {d : Addr} {c : Cell} {kvs : List (Cell × β)} {x : β} (hk : Dc H d kvs) (hv : EvP tv s H (en x)) (hd : EvP td s H (va (.ref d))) (hc : EvP ty s H (en c)) (hl : kvs.length < 1000000)
    (k : ∀ H1, Ex H H1 → ∀ H2, Tu H1 H2 → Dc H2 d (dput kvs c x) → (∀ q, q ≠ d → H2 q = H1 q) → D.nx s H2) : sDPut td ty tv D s H := hv H Ex.same _ fun v H1 e1 hv => hd H1 e1 _ fun w H2 e2 hw => hc H2 (e1.tr e2) _ fun u H3 e3 hu => by
  obtain rfl : w = .ref d := hw
  have e := (e1.tr e2).tr e3
  obtain ⟨us, h1, h2⟩ := hk.up e
  obtain ⟨b, eu, hb⟩ := cell_at hu
  subst eu
  have hv' := en_up (e2.tr e3) hv
  have t := Tu.mutT (o := .dT (putK us (ck c) v)) h1
  exact ⟨d, _, rfl, DPut.t h1 hb (by rw [h2.length]; exact sz_lt (Nat.le_of_lt hl)), k H3 e _ t ⟨_, upd_same, paired_map (put_of h2 c hv') fun _ _ z => ⟨z.1, Enc.mono t z.2⟩⟩ fun q hq => upd_ne hq⟩
/-- d.pop(c) -/
theorem s_dpop {K : PySem.W.Frag} {d : Addr} {c : Cell} {kvs : List (Cell × β)} (hk : Dc H d kvs) (hd : EvP td s H (va (.ref d))) (hc : EvP ty s H (en c)) (hin : (dget kvs c).isSome = true)
    (k : ∀ H1, Ex H H1 → ∀ H2, Tu H1 H2 → Dc H2 d (ddel kvs c) → (∀ q, q ≠ d → H2 q = H1 q) → D.nx s H2) (hty : ∀ H us, H d = some (.dT us) → tyV K "dict" (.ref d) H) : tDrop (tBM K "dict" rPop1 td (tCons ty tNil)) D s H :=
  hd H Ex.same _ fun w H1 e1 hw => by
    obtain rfl : w = .ref d := hw
    obtain ⟨us0, h10, _⟩ := hk.up e1
    refine ⟨hty _ _ h10, hc H1 e1 _ fun u H2 e2 hu => ?_⟩
    have e := e1.tr e2
    obtain ⟨us, h1, h2⟩ := hk.up e
    obtain ⟨b, eu, hb⟩ := cell_at hu
    subst eu
    have hs := val_some h2 c
    rw [hin] at hs
    obtain ⟨v, hv⟩ := Option.isSome_iff_exists.mp hs
    have t := Tu.mutT (o := .dT (dropK us (ck c))) h1
    exact ⟨d, us, ck c, b, v, rfl, rfl, h1, hb, hv, k H2 e _ t ⟨_, upd_same, paired_map (del_of h2 c) fun _ _ z => ⟨z.1, Enc.mono t z.2⟩⟩ fun q hq => upd_ne hq⟩
/-- {}, to be filled by cells -/
theorem s_asgD {i : Nat} (k : ∀ d, H d = none → Dc (β := β) (upd H d (.dT [])) d [] → D.nx (s.set i (some (.ref d))) (upd H d (.dT []))) : tAsg tDNewT (gName i) D s H := fun d hd => k d hd ⟨[], upd_same, .nil⟩
/-- list(d) -/
theorem en_keys {kvs : List (Cell × β)} {r : List V → Hp → VK → Prop} (hr : r = fun xs H Q => ∃ d kvs, xs = [V.ref d] ∧ Rd H d (.dT kvs) ∧ ∀ p bs, H p = none → IsKeys H kvs bs → Q (.ref p) (upd H p (.lst (bs.map V.ref)))) (hd : EvP td s H (ds kvs)) :
    EvN (tCB r (tCons td tNil)) s H (kvs.map (·.1)) := fun H1 e Q q =>
  hd H1 e _ fun w H2 e2 ⟨d, ew, us, hd, hp⟩ => by
    subst hr
    refine ⟨d, us, by rw [ew], .inl hd, fun p bs hn hk => q p _ (e2.back hn) (e2.tr (Ex.new hn)) ⟨_, upd_same, ?_⟩⟩
    have aux : ∀ {us : List (List Key × V)} {bs : List Addr} {kvs : List (Cell × β)}, IsKeys H2 us bs → Paired (fun (p : List Key × V) (q : Cell × β) => p.1 = ck q.1 ∧ Enc.r H2 p.2 q.2) us kvs → Paired (Enc.r (upd H2 p (.lst (bs.map V.ref)))) (bs.map V.ref) (kvs.map (·.1)) → True := fun _ _ _ => trivial
    clear aux
    have key : ∀ {us : List (List Key × V)} {bs : List Addr} {kvs : List (Cell × β)} (o : HO), Paired (fun (p : List Key × V) (b : Addr) => H2 b = some (.tup (p.1.map kV))) us bs → Paired (fun (p : List Key × V) (q : Cell × β) => p.1 = ck q.1 ∧ Enc.r H2 p.2 q.2) us kvs →
        Paired (Enc.r (upd H2 p o)) (bs.map V.ref) (kvs.map (·.1)) := by
      intro us bs kvs o h1 h2
      induction h1 generalizing kvs with
      | nil =>
        cases h2
        exact .nil
      | cons a t ih =>
        cases h2 with
        | cons b t' =>
          refine .cons ⟨_, _, _, rfl, ?_, rfl, rfl⟩ (ih t')
          rw [upd_ne (ne_of_none a hn), a, b.1]
          rfl
    exact key _ hk hp
/-- len(d) -/
theorem ev_lenD {kvs : List (Cell × β)} (hd : EvP td s H (ds kvs)) : EvP (tCB rLenT (tCons td tNil)) s H (en (kvs.length : Int)) := fun H1 e Q q =>
  hd H1 e _ fun w H2 e2 ⟨d, ew, us, hd, hp⟩ => ⟨d, us, by rw [ew], hd, q _ H2 e2 (by rw [hp.length]; exact rfl)⟩
end
end TB
set_option Elab.async false
set_option linter.all false
set_option maxRecDepth 100000
set_option maxHeartbeats 2000000
/-! TG: statements in a row. -/
namespace TB
open PySem PySem.Spec PyProof.Rows L2
/-- only the object at d has changed, and no tuple -/
structure Bt (d : Addr) (H H' : Hp) : Prop where
  tu : Tu H H'
  ne : ∀ q, q ≠ d → H' q = H q
theorem Ex.but {H0 H1 H2 : Hp} {d : Addr} (e : Ex H0 H1) (hd : H0 d = none) (b : Bt d H1 H2) : Ex H0 H2 := fun a o h => by
  rw [b.ne a (ne_of_none h hd)]
  exact e a o h
section
variable {K : PySem.W.Frag} {s : TSt} {H H' H0 H1 H2 : Hp} {ta tb te td ty tv tl : TE} {t : TT} {u tu tw : TS} {D : Ends} {g : TG} {α β γ : Type} [DecidableEq α] [Enc α] [DecidableEq β] [Enc β] [DecidableEq γ] [Enc γ] {P P1 P2 : Pd}
theorem Ls.but {d p : Addr} {xs : List α} (h : Ls H1 p xs) (n : p ≠ d) (b : Bt d H1 H2) : Ls H2 p xs := by
  obtain ⟨us, h1, h2⟩ := h
  exact ⟨us, by rw [b.ne p n]; exact h1, paired_map h2 fun _ _ z => Enc.mono b.tu z⟩
theorem Dc.but {d p : Addr} {kvs : List (Cell × β)} (h : Dc H1 p kvs) (n : p ≠ d) (b : Bt d H1 H2) : Dc H2 p kvs := h.to (b.ne p n) b.tu
theorem Ls.ne_new {p q : Addr} {xs : List α} (h : Ls H p xs) (n : H q = none) : p ≠ q := by
  obtain ⟨us, h1, _⟩ := h
  exact ne_of_none h1 n
theorem Dc.ne_new {p q : Addr} {kvs : List (Cell × β)} (h : Dc H p kvs) (n : H q = none) : p ≠ q := by
  obtain ⟨us, h1, _⟩ := h
  exact ne_of_none h1 n
theorem Ls.ne_Dc {p q : Addr} {xs : List α} {kvs : List (Cell × β)} (h : Ls H p xs) (n : Dc H q kvs) : p ≠ q := by
  obtain ⟨us, h1, _⟩ := h
  obtain ⟨vs, h2, _⟩ := n
  intro e
  rw [e, h2] at h1
  cases h1
theorem q_asg {i : Nat} (h : EvP te s H P) (k : ∀ v H1, Ex H H1 → P.p H1 v → u D (s.set i (some v)) H1) : tSeq (tAsg te (gName i)) u D s H := s_asg h k
theorem q_asgN {i : Nat} {xs : List α} (h : EvN te s H xs) (k : ∀ p H1, H p = none → Ex H H1 → Ls H1 p xs → u D (s.set i (some (.ref p))) H1) : tSeq (tAsg te (gName i)) u D s H := s_asgN h k
theorem q_drop (h : EvP te s H P) (k : ∀ H1, Ex H H1 → u D s H1) : tSeq (tDrop te) u D s H := s_drop h k
/-- an if whose branches go on, or leave -/
theorem q_if {b : Bool} (h : EvB t s H b) (h1 : b = true → ∀ H1, Ex H H1 → tu { D with nx := u D } s H1) (h2 : b = false → ∀ H1, Ex H H1 → tw { D with nx := u D } s H1) : tSeq (tIfS t tu tw) u D s H := s_if h h1 h2
/-- an if without else -/
theorem q_ifN {b : Bool} (h : EvB t s H b) (h1 : b = true → ∀ H1, Ex H H1 → tu { D with nx := u D } s H1) (h2 : b = false → ∀ H1, Ex H H1 → u D s H1) : tSeq (tIfS t tu tNext) u D s H := s_if h h1 h2
theorem s_ifN {b : Bool} (h : EvB t s H b) (h1 : b = true → ∀ H1, Ex H H1 → tu D s H1) (h2 : b = false → ∀ H1, Ex H H1 → D.nx s H1) : tIfS t tu tNext D s H := s_if h h1 h2
theorem q_par {i j : Nat} {tr : TA} (h : EvA tr s H [P1, P2]) (k : ∀ v w H1, Ex H H1 → P1.p H1 v → P2.p H1 w → u D ((s.set i (some v)).set j (some w)) H1) : tSeq (tPar i j tr) u D s H := s_par h k
theorem s_app' {l : Addr} {xs : List α} {x : α} (hl : Ls H l xs) (ha : EvP ta s H (va (.ref l))) (h : EvP te s H (en x)) (hz : xs.length < 1000000) (k : ∀ H1, Ex H H1 → ∀ H2, Bt l H1 H2 → Ls H2 l (xs ++ [x]) → D.nx s H2) :
    tDrop (tBM K "list" rAppend ta (tCons te tNil)) D s H := s_app hl ha h hz fun H1 e H2 t l n => k H1 e H2 ⟨t, n⟩ l
theorem q_app {l : Addr} {xs : List α} {x : α} (hl : Ls H l xs) (ha : EvP ta s H (va (.ref l))) (h : EvP te s H (en x)) (hz : xs.length < 1000000) (k : ∀ H1, Ex H H1 → ∀ H2, Bt l H1 H2 → Ls H2 l (xs ++ [x]) → u D s H2) :
    tSeq (tDrop (tBM K "list" rAppend ta (tCons te tNil))) u D s H := s_app hl ha h hz fun H1 e H2 t l n => k H1 e H2 ⟨t, n⟩ l
theorem q_asgP {i j : Nat} {x : α × β} (h : EvP te s H (en x)) (k : ∀ v w H1, Ex H H1 → En H1 v x.1 → En H1 w x.2 → u D ((s.set i (some v)).set j (some w)) H1) : tSeq (tAsg te (gTup K 2 (gCons (gName i) (gCons (gName j) gNil)))) u D s H := s_asgP h k
theorem s_dput' {d : Addr} {c : Cell} {kvs : List (Cell × β)} {x : β} (hk : Dc H d kvs) (hv : EvP tv s H (en x)) (hd : EvP td s H (va (.ref d))) (hc : EvP ty s H (en c)) (hl : kvs.length < 1000000)
    (k : ∀ H1, Ex H H1 → ∀ H2, Bt d H1 H2 → Dc H2 d (dput kvs c x) → D.nx s H2) : sDPut td ty tv D s H := s_dput hk hv hd hc hl fun H1 e H2 t l n => k H1 e H2 ⟨t, n⟩ l
theorem q_dput {d : Addr} {c : Cell} {kvs : List (Cell × β)} {x : β} (hk : Dc H d kvs) (hv : EvP tv s H (en x)) (hd : EvP td s H (va (.ref d))) (hc : EvP ty s H (en c)) (hl : kvs.length < 1000000)
    (k : ∀ H1, Ex H H1 → ∀ H2, Bt d H1 H2 → Dc H2 d (dput kvs c x) → u D s H2) : tSeq (sDPut td ty tv) u D s H := s_dput hk hv hd hc hl fun H1 e H2 t l n => k H1 e H2 ⟨t, n⟩ l
theorem tyD {d : Addr} : ∀ (H : Hp) us, H d = some (.dT us) → tyV K "dict" (.ref d) H := fun H us h => .inr (.inr (.inl ⟨rfl, .inr ⟨us, h⟩⟩))
theorem q_dpop {d : Addr} {c : Cell} {kvs : List (Cell × β)} (hk : Dc H d kvs) (hd : EvP td s H (va (.ref d))) (hc : EvP ty s H (en c)) (hin : (dget kvs c).isSome = true)
    (k : ∀ H1, Ex H H1 → ∀ H2, Bt d H1 H2 → Dc H2 d (ddel kvs c) → u D s H2) : tSeq (tDrop (tBM K "dict" rPop1 td (tCons ty tNil))) u D s H := s_dpop hk hd hc hin (fun H1 e H2 t l n => k H1 e H2 ⟨t, n⟩ l) tyD
theorem q_asgD {i : Nat} (k : ∀ d, H d = none → Dc (β := β) (upd H d (.dT [])) d [] → u D (s.set i (some (.ref d))) (upd H d (.dT []))) : tSeq (tAsg tDNewT (gName i)) u D s H := s_asgD k
theorem q_forT {xs : List α} (h : EvP tl s H (en xs)) (k : ∀ H1, Ex H H1 → ∃ Pv : Nat → TSt → Hp → Prop, Pv 0 s H1 ∧ (∀ i s' H', Pv i s' H' → Tu H1 H') ∧
      (∀ i x v s' H', xs[i]? = some x → En H' v x → Pv i s' H' → g v s' H' fun s2 H2 => tu (turnEnds { D with nx := u D } Pv i) s2 H2) ∧ (∀ s' H', Pv xs.length s' H' → u D s' H')) : tSeq (tFor (iTup K tl) g tu) u D s H := s_forT h k
theorem q_forL {xs : List α} (h : EvP tl s H (li xs)) (k : ∀ H1 p us, Ex H H1 → H1 p = some (.lst us) → Paired (Enc.r H1) us xs → ∃ Pv : Nat → TSt → Hp → Prop, Pv 0 s H1 ∧ (∀ i s' H', Pv i s' H' → Tu H1 H' ∧ H' p = some (.lst us)) ∧
      (∀ i x v s' H', xs[i]? = some x → En H' v x → Pv i s' H' → g v s' H' fun s2 H2 => tu (turnEnds { D with nx := u D } Pv i) s2 H2) ∧ (∀ s' H', Pv xs.length s' H' → u D s' H')) : tSeq (tFor (iList K tl) g tu) u D s H := s_forL h k
theorem q_forR1 {tr : TA} {n : Int} (h : EvA tr s H [en n]) (hn : -1000000 ≤ n ∧ n ≤ 1000000000) (k : ∀ H1, Ex H H1 → ∃ Pv : Nat → TSt → Hp → Prop, Pv 0 s H1 ∧
      (∀ (i : Nat) s' H', (i : Int) < n → Pv i s' H' → g (.int (i : Int)) s' H' fun s2 H2 => tu (turnEnds { D with nx := u D } Pv i) s2 H2) ∧ (∀ s' H', Pv n.toNat s' H' → u D s' H')) : tSeq (tFor (iRng1 tr) g tu) u D s H := s_forR1 h hn k
theorem q_forR2 {tr : TA} {lo n : Int} (h : EvA tr s H [en lo, en n]) (hn : -1000000 ≤ lo ∧ lo ≤ 1000000000 ∧ -1000000 ≤ n ∧ n ≤ 1000000000) (k : ∀ H1, Ex H H1 → ∃ Pv : Nat → TSt → Hp → Prop, Pv 0 s H1 ∧
      (∀ (i : Nat) s' H', lo + (i : Int) < n → Pv i s' H' → g (.int (lo + (i : Int))) s' H' fun s2 H2 => tu (turnEnds { D with nx := u D } Pv i) s2 H2) ∧ (∀ s' H', Pv (n - lo).toNat s' H' → u D s' H')) : tSeq (tFor (iRng2 tr) g tu) u D s H := s_forR2 h hn k
theorem dc_ds {d : Addr} {v : V} {kvs : List (Cell × β)} (h : (dc d kvs).p H v) : (ds kvs).p H v := ⟨d, h⟩
theorem ev_ds {i : Nat} {d : Addr} {kvs : List (Cell × β)} (h : s[i]? = some (some (.ref d))) (hd : Dc H d kvs) : EvP (tVar i) s H (ds kvs) := ev_var h ⟨d, rfl, hd⟩
theorem ev_li {i : Nat} {p : Addr} {xs : List α} (h : s[i]? = some (some (.ref p))) (hd : Ls H p xs) : EvP (tVar i) s H (li xs) := ev_var h ⟨p, rfl, hd⟩
theorem ev_vr {i : Nat} {p : Addr} (h : s[i]? = some (some (.ref p))) : EvP (tVar i) s H (va (.ref p)) := ev_var h rfl

/-- what is wanted behind a loop, told once -/
theorem q_with (Fn : TSt → Hp → Prop) {tt : TS} (hf : ∀ s' H', Fn s' H' → u D s' H') (k : (∀ s' H', Fn s' H' → u D s' H') → tSeq tt u D s H) : tSeq tt u D s H := k hf
theorem en_sort {α : Type} [DecidableEq α] [Enc α] [EncO α] {xs : List α} (ha : EvP ta s H (li xs)) (ht : (∀ x ∈ xs, ∃ y r, Enc.d x = .tuple (y :: r)) ∨ ∀ x ∈ xs, ∀ r, Enc.d x ≠ .tuple r) : EvN (tCB (rSortE α) (tCons ta tNil)) s H (srt xs) := fun H1 e Q q =>
  ha H1 e _ fun v H2 e2 ⟨l, ev, hl⟩ => ⟨l, xs, by rw [ev], hl, ht, fun us p hu hp => q p _ (e2.back hp) (e2.tr (Ex.new hp)) ⟨us, upd_same, paired_map hu fun _ _ w => en_up (Ex.new hp) w⟩⟩
/-! fresh results -/
def EvW (te : TE) (s : TSt) (H : Hp) (P : Pd) : Prop := ∀ H1, Ex H H1 → ∀ Q : VK, (∀ p H2, H1 p = none → H2 p ≠ none → Ex H1 H2 → P.p H2 (.ref p) → Q (.ref p) H2) → te s H1 Q
theorem EvN.w {xs : List α} (h : EvN te s H xs) : EvW te s H (TB.li xs) := fun H1 e Q q => h H1 e Q fun p H2 n e2 l => q p H2 n (by
  obtain ⟨us, h1, _⟩ := l
  rw [h1]
  exact fun z => by cases z) e2 ⟨p, rfl, l⟩
theorem EvW.n {xs : List α} (h : EvW te s H (TB.li xs)) : EvN te s H xs := fun H1 e Q q => h H1 e Q fun p H2 n _ e2 ⟨p', e', l⟩ => by
  cases e'
  exact q p H2 n e2 l
theorem EvW.p (h : EvW te s H P) : EvP te s H P := fun H1 e Q q => h H1 e Q fun p H2 _ _ e2 l => q _ H2 e2 l
theorem ew_dict : EvW tDNewT s H (ds ([] : List (Cell × β))) := fun H1 e Q q d hd => q d _ hd (by rw [upd_same]; exact fun z => by cases z) (Ex.new hd) ⟨d, rfl, [], upd_same, .nil⟩
theorem en_nil : EvN (α := α) (tLst tNil) s H [] := fun H1 e Q q => ⟨Nat.zero_le _, fun p hp => q p _ hp (Ex.new hp) ⟨[], upd_same, .nil⟩⟩
theorem li_at {p : Addr} {xs : List α} (h : (li xs).p H (.ref p)) : Ls H p xs := by
  obtain ⟨q, e, h⟩ := h
  cases e
  exact h
theorem ds_at {p : Addr} {kvs : List (Cell × β)} (h : (ds kvs).p H (.ref p)) : Dc H p kvs := by
  obtain ⟨q, e, h⟩ := h
  cases e
  exact h
theorem q_parWW {i j : Nat} (ha : EvW ta s H P1) (hb : EvW tb s H P2) (k : ∀ p q H1, H p = none → H q = none → p ≠ q → Ex H H1 → P1.p H1 (.ref p) → P2.p H1 (.ref q) → u D ((s.set i (some (.ref p))).set j (some (.ref q))) H1) : tSeq (tPar i j (tCons ta (tCons tb tNil))) u D s H :=
  ha H Ex.same _ fun p H1 n1 n1' e1 h1 => hb H1 e1 _ fun q H2 n2 n2' e2 h2 => ⟨_, _, rfl, k p q H2 n1 (e1.back n2) (fun z => n1' (by rw [z]; exact n2)) (e1.tr e2) (P1.up e2 h1) h2⟩
theorem q_parPW {i j : Nat} (ha : EvP ta s H P1) (hb : EvW tb s H P2) (k : ∀ v q H1, H q = none → Ex H H1 → P1.p H1 v → P2.p H1 (.ref q) → u D ((s.set i (some v)).set j (some (.ref q))) H1) : tSeq (tPar i j (tCons ta (tCons tb tNil))) u D s H :=
  ha H Ex.same _ fun v H1 e1 h1 => hb H1 e1 _ fun q H2 n2 n2' e2 h2 => ⟨_, _, rfl, k v q H2 (e1.back n2) (e1.tr e2) (P1.up e2 h1) h2⟩
theorem q_parWP {i j : Nat} (ha : EvW ta s H P1) (hb : EvP tb s H P2) (k : ∀ p v H1, H p = none → Ex H H1 → P1.p H1 (.ref p) → P2.p H1 v → u D ((s.set i (some (.ref p))).set j (some v)) H1) : tSeq (tPar i j (tCons ta (tCons tb tNil))) u D s H :=
  ha H Ex.same _ fun p H1 n1 n1' e1 h1 => hb H1 e1 _ fun v H2 e2 h2 => ⟨_, _, rfl, k p v H2 n1 (e1.tr e2) (P1.up e2 h1) h2⟩
theorem q_asgW {i : Nat} (ha : EvW te s H P) (k : ∀ p H1, H p = none → Ex H H1 → P.p H1 (.ref p) → u D (s.set i (some (.ref p))) H1) : tSeq (tAsg te (gName i)) u D s H := ha H Ex.same _ fun p H1 n1 _ e1 h1 => k p H1 n1 e1 h1

/-! what may change: S; new things may be there -/
structure Mv (S : List Addr) (H H' : Hp) : Prop where
  ch : Ch S H H'
  tu : Tu H H'
theorem Mv.same {S : List Addr} : Mv S H H := ⟨Ch.same, Tu.same⟩
theorem Mv.ex {S : List Addr} (m : Mv S H H1) (e : Ex H1 H2) : Mv S H H2 := ⟨fun a o n h => e a o (m.ch a o n h), m.tu.tr e.tu⟩
theorem Mv.but {S : List Addr} {d : Addr} (m : Mv S H H1) (b : Bt d H1 H2) (h : d ∈ S ∨ H d = none) : Mv S H H2 := by
  refine ⟨fun a o n q => ?_, m.tu.tr b.tu⟩
  have ne : a ≠ d := by
    rcases h with h | h
    · intro z
      rw [z] at n
      exact n h
    · exact ne_of_none q h
  rw [b.ne a ne]
  exact m.ch a o n q
theorem Mv.tr {S : List Addr} (m : Mv S H H1) (k : Mv S H1 H2) : Mv S H H2 := ⟨m.ch.tr k.ch, m.tu.tr k.tu⟩
theorem Mv.back {S : List Addr} {a : Addr} (m : Mv S H H1) (n : a ∉ S) (h : H1 a = none) : H a = none := by
  cases e : H a with
  | none => rfl
  | some o =>
    rw [m.ch a o n e] at h
    cases h
theorem Mv.trw {S T : List Addr} (m : Mv S H H1) (k : Mv T H1 H2) (h : ∀ a, a ∈ T → a ∈ S ∨ H a = none) : Mv S H H2 :=
  ⟨fun a o n q => k.ch a o (fun z => (h a z).elim n fun w => by rw [w] at q; cases q) (m.ch a o n q), m.tu.tr k.tu⟩
theorem Mv.wide {S T : List Addr} (m : Mv S H H1) (h : ∀ a, a ∈ S → a ∈ T ∨ H a = none) : Mv T H H1 := ⟨fun a o n q => m.ch a o (fun z => (h a z).elim n fun w => by rw [w] at q; cases q) q, m.tu⟩
/-- of what H0 knew nothing has changed, for S was new -/
theorem Ex.mv {S : List Addr} (e : Ex H0 H) (m : Mv S H H1) (h : ∀ a, a ∈ S → H0 a = none) : Ex H0 H1 := fun a o q => m.ch a o (fun z => by rw [h a z] at q; cases q) (e a o q)
theorem Ls.mv {S : List Addr} {p : Addr} {xs : List α} (h : Ls H p xs) (n : p ∉ S) (m : Mv S H H1) : Ls H1 p xs := h.ch n m.ch m.tu
theorem Dc.mv {S : List Addr} {p : Addr} {kvs : List (Cell × β)} (h : Dc H p kvs) (n : p ∉ S) (m : Mv S H H1) : Dc H1 p kvs := by
  obtain ⟨us, h1, h2⟩ := h
  exact ⟨us, m.ch _ _ n h1, paired_map h2 fun _ _ z => ⟨z.1, Enc.mono m.tu z.2⟩⟩
theorem en_mv {S : List Addr} {v : V} {x : α} (h : En H v x) (m : Mv S H H1) : En H1 v x := Enc.mono m.tu h
theorem mem1 {a d : Addr} (h : a ≠ d) : a ∉ [d] := fun z => h (List.mem_singleton.mp z)
theorem mem2 {a d e : Addr} (h : a ≠ d) (k : a ≠ e) : a ∉ [d, e] := fun z => by
  rcases List.mem_cons.mp z with z | z
  · exact h z
  · exact mem1 k z
/-- over a new list -/
theorem s_forN {xs : List α} (S : List Addr) (h : EvN tl s H xs) (hS : ∀ a, a ∈ S → H a ≠ none) (k : ∀ H1, Ex H H1 → ∃ Pv : Nat → TSt → Hp → Prop, Pv 0 s H1 ∧ (∀ i s' H', Pv i s' H' → Mv S H1 H') ∧
      (∀ i x v s' H', xs[i]? = some x → En H' v x → Pv i s' H' → g v s' H' fun s2 H2 => tu (turnEnds D Pv i) s2 H2) ∧ (∀ s' H', Pv xs.length s' H' → D.nx s' H')) : tFor (iList K tl) g tu D s H :=
  h H Ex.same _ fun a H1 na e ⟨us, ha, hp⟩ => by
    obtain ⟨Pv, h0, ht, hs, hd⟩ := k H1 e
    have hn : a ∉ S := fun z => hS a z na
    refine ⟨a, rfl, ⟨us, .inl (.inl ha)⟩, for_list (xs := us) Pv h0 (fun i s' H' _ P => .inl (.inl ((ht i s' H' P).ch _ _ hn ha))) (fun i u s' H' hu P => ?_) fun s' H' P => hd s' H' (by rw [← hp.length]; exact P)⟩
    obtain ⟨x, hx, hr⟩ := paired_getL hp hu
    exact hs i x u s' H' hx (en_mv hr (ht i s' H' P)) P
theorem q_forN {xs : List α} (S : List Addr) (h : EvN tl s H xs) (hS : ∀ a, a ∈ S → H a ≠ none) (k : ∀ H1, Ex H H1 → ∃ Pv : Nat → TSt → Hp → Prop, Pv 0 s H1 ∧ (∀ i s' H', Pv i s' H' → Mv S H1 H') ∧
      (∀ i x v s' H', xs[i]? = some x → En H' v x → Pv i s' H' → g v s' H' fun s2 H2 => tu (turnEnds { D with nx := u D } Pv i) s2 H2) ∧ (∀ s' H', Pv xs.length s' H' → u D s' H')) : tSeq (tFor (iList K tl) g tu) u D s H := s_forN S h hS k
/-- over the list at a -/
theorem s_forA {xs : List α} {a : Addr} (S : List Addr) (hl : Ls H a xs) (h : EvP tl s H (va (.ref a))) (hn : a ∉ S) (k : ∀ H1, Ex H H1 → ∃ Pv : Nat → TSt → Hp → Prop, Pv 0 s H1 ∧ (∀ i s' H', Pv i s' H' → Mv S H1 H') ∧
      (∀ i x v s' H', xs[i]? = some x → En H' v x → Pv i s' H' → g v s' H' fun s2 H2 => tu (turnEnds D Pv i) s2 H2) ∧ (∀ s' H', Pv xs.length s' H' → D.nx s' H')) : tFor (iList K tl) g tu D s H :=
  h H Ex.same _ fun w H1 e hw => by
    obtain rfl : w = .ref a := hw
    obtain ⟨us, ha, hp⟩ := hl.up e
    obtain ⟨Pv, h0, ht, hs, hd⟩ := k H1 e
    refine ⟨a, rfl, ⟨us, .inl (.inl ha)⟩, for_list (xs := us) Pv h0 (fun i s' H' _ P => .inl (.inl ((ht i s' H' P).ch _ _ hn ha))) (fun i u s' H' hu P => ?_) fun s' H' P => hd s' H' (by rw [← hp.length]; exact P)⟩
    obtain ⟨x, hx, hr⟩ := paired_getL hp hu
    exact hs i x u s' H' hx (en_mv hr (ht i s' H' P)) P
theorem q_forA {xs : List α} {a : Addr} (S : List Addr) (hl : Ls H a xs) (h : EvP tl s H (va (.ref a))) (hn : a ∉ S) (k : ∀ H1, Ex H H1 → ∃ Pv : Nat → TSt → Hp → Prop, Pv 0 s H1 ∧ (∀ i s' H', Pv i s' H' → Mv S H1 H') ∧
      (∀ i x v s' H', xs[i]? = some x → En H' v x → Pv i s' H' → g v s' H' fun s2 H2 => tu (turnEnds { D with nx := u D } Pv i) s2 H2) ∧ (∀ s' H', Pv xs.length s' H' → u D s' H')) : tSeq (tFor (iList K tl) g tu) u D s H := s_forA S hl h hn k
theorem Ls.nn {p : Addr} {xs : List α} (h : Ls H p xs) : H p ≠ none := by
  obtain ⟨us, h1, _⟩ := h
  rw [h1]
  exact fun z => by cases z
theorem Dc.nn {p : Addr} {kvs : List (Cell × β)} (h : Dc H p kvs) : H p ≠ none := by
  obtain ⟨us, h1, _⟩ := h
  rw [h1]
  exact fun z => by cases z
theorem nn1 {d : Addr} (h : H d ≠ none) : ∀ a, a ∈ [d] → H a ≠ none := fun a z => by
  rw [List.mem_singleton.mp z]
  exact h
theorem nn2 {d e : Addr} (h : H d ≠ none) (k : H e ≠ none) : ∀ a, a ∈ [d, e] → H a ≠ none := fun a z => by
  rcases List.mem_cons.mp z with z | z
  · rw [z]
    exact h
  · exact nn1 k a z
theorem no1 {d : Addr} (h : H d = none) : ∀ a, a ∈ [d] → H a = none := fun a z => by
  rw [List.mem_singleton.mp z]
  exact h
theorem no2 {d e : Addr} (h : H d = none) (k : H e = none) : ∀ a, a ∈ [d, e] → H a = none := fun a z => by
  rcases List.mem_cons.mp z with z | z
  · rw [z]
    exact h
  · exact no1 k a z
end
/-- some list of which C is told -/
def liX {α : Type} [DecidableEq α] [Enc α] (C : List α → Prop) : Pd := ⟨fun H v => ∃ xs, C xs ∧ (li xs).p H v, fun e ⟨xs, c, h⟩ => ⟨xs, c, (li xs).up e h⟩⟩
/-- some datum of which C is told -/
def enX {α : Type} [DecidableEq α] [Enc α] (C : α → Prop) : Pd := ⟨fun H v => ∃ x, C x ∧ En H v x, fun e ⟨x, c, h⟩ => ⟨x, c, en_up e h⟩⟩
end TB
set_option Elab.async false
set_option linter.all false
set_option maxRecDepth 100000
set_option maxHeartbeats 2000000
/-! TF: the program as it stands; the small defs of the code. -/
namespace TB
open PySem PySem.Spec PyProof.Rows L2

def topS (i : Nat) : Stmt := PySem.Challenge.pw_slideinto_k44_whole_witnesses.main.body.getD i (.Pass ⟨0, 0, 0, 0⟩)
/-- names of built-in things that the text has not bound -/
structure Blt (mg : Str → Option Value) : Prop where
  len : mg "len" = none
  range : mg "range" = none
  sorted : mg "sorted" = none
  list : mg "list" = none
  tuple : mg "tuple" = none
  set : mg "set" = none
  isinstance : mg "isinstance" = none
  int : mg "int" = none
  bool : mg "bool" = none
  max : mg "max" = none
  min : mg "min" = none
  abs : mg "abs" = none
  all : mg "all" = none
  enumerate : mg "enumerate" = none
section
variable {P : Program} {w : World} {K : PySem.W.Frag} {mg : Str → Option Value} {base : Heap}
/-- what len wants -/
def rLenK (K : PySem.W.Frag) : List V → Hp → VK → Prop := fun xs H Q => ∃ p ys, xs = [V.ref p] ∧ (SqL K H p ys ∨ SqT K H p ys) ∧ Q (.int ys.length) H
def rTupK (K : PySem.W.Frag) : List V → Hp → VK → Prop := fun xs H Q => ∃ p ys, xs = [V.ref p] ∧ ((SqL K H p ys ∧ ∀ l, H l = none → Q (.ref l) (upd H l (.tup ys))) ∨ (SqT K H p ys ∧ Q (.ref p) H))
def rListK (K : PySem.W.Frag) : List V → Hp → VK → Prop := fun xs H Q => ∃ p ys, xs = [V.ref p] ∧ (SqL K H p ys ∨ SqT K H p ys) ∧ ∀ l, H l = none → Q (.ref l) (upd H l (.lst ys))
structure Txt (K : PySem.W.Frag) (mg : Str → Option Value) (x qual : Str) (st : Stmt) (ps : List Str) : Prop where
  ex : ∃ f fd, Fun K x qual st f fd ∧ mg x = some (.ref f) ∧ Binds K fd ps []
structure Cal (P : Program) (w : World) (K : PySem.W.Frag) (mg : Str → Option Value) (base : Heap) (L : Nat) (x : Str) (ps : List Str) (sp : Sp) : Prop where
  ex : ∃ f fd, FnOk P w K mg base CX0 L f fd ps sp ∧ mg x = some (.ref f) ∧ PySem.W.keepIn K (.ref f) = true ∧ Binds K fd ps []
theorem Cal.mono {j k : Nat} {x : Str} {ps : List Str} {sp : Sp} (C : Cal P w K mg base j x ps sp) (h : j ≤ k) : Cal P w K mg base k x ps sp := by
  obtain ⟨f, fd, F, r⟩ := C.ex
  exact ⟨f, fd, F.mono h, r⟩
theorem Cal.imp {k : Nat} {x : Str} {ps : List Str} {sp sp' : Sp} (C : Cal P w K mg base k x ps sp) (h : ∀ vs H Q E, sp' vs H Q E → sp vs H Q E) : Cal P w K mg base k x ps sp' := by
  obtain ⟨f, fd, F, r⟩ := C.ex
  exact ⟨f, fd, F.imp h, r⟩
theorem Txt.cal {x qual : Str} {st : Stmt} {N ps : List Str} {k : Nat} {sp : Sp} (T : Txt K mg x qual st ps) (S : FnScope N ps (defScope st)) (len : ∀ vs H Q E, sp vs H Q E → vs.length = ps.length)
    (hbody : ∀ (f : Addr) (cdv : Value) (A : Around) (outer : List Env) (s : Shared) (H : Hp) (vs : List V) (Q : VK) (E : XK), Room k (A.deeper (envOfC qual (defScope st) s.heap.objs.size f cdv)) → sp vs H Q E →
      ∃ t, PSs (cxOf CX0 P w K mg base N qual (defScope st) f cdv A outer s H E).nox (defBody st) t ∧ t { nx := fun _ H' => Q .non H', rt := Q } (start N vs) H) : Cal P w K mg base (k + 1) x ps sp := by
  obtain ⟨f, fd, F, g, b⟩ := T.ex
  exact ⟨f, fd, F.ok S len (hbody f), g, F.kp, b⟩
section
variable {X : Cx} {x : Str} {ps : List Str} {sp : Sp} {k : Nat} {e : Expr} {es : List Expr} {t : TA} {p pos : Pos}
theorem pe_cal (C : Cal X.prog X.w X.K X.mg X.base k x ps sp) (hr : Room k X.A) (ha : PA X (e :: es) t) (hg : Gl X x := by rfl)
    (hdb : (x == ("__debug__" : Str)) = false := by decide) (he : starEach (e :: es) X.env = (false, eval e X.env) :: starEach es X.env := by rfl) (hpl : (backTo pos (starEach es X.env)).any (·.1) = false := by rfl) :
    PE X (.Call (.Name x p) (e :: es) [] pos) (tCall sp [] E0 t) := by
  obtain ⟨f, fd, F, g, kp, b⟩ := C.ex
  exact pe_call F hr hg g kp b .nil pass0 ha hdb he hpl
end
theorem AllP.len {H : Hp} {vs : List V} {Ps : List Pd} (h : AllP H vs Ps) : vs.length = Ps.length := Paired.length h
theorem al1 {H : Hp} {vs : List V} {P1 : Pd} (h : AllP H vs [P1]) : ∃ v, vs = [v] ∧ P1.p H v := by
  cases h with
  | cons a r =>
    cases r
    exact ⟨_, rfl, a⟩
theorem al2 {H : Hp} {vs : List V} {P1 P2 : Pd} (h : AllP H vs [P1, P2]) : ∃ v1 v2, vs = [v1, v2] ∧ P1.p H v1 ∧ P2.p H v2 := by
  cases h with
  | cons a r =>
    obtain ⟨v, rfl, b⟩ := al1 r
    exact ⟨_, _, rfl, a, b⟩
theorem al3 {H : Hp} {vs : List V} {P1 P2 P3 : Pd} (h : AllP H vs [P1, P2, P3]) : ∃ v1 v2 v3, vs = [v1, v2, v3] ∧ P1.p H v1 ∧ P2.p H v2 ∧ P3.p H v3 := by
  cases h with
  | cons a r =>
    obtain ⟨v, w, rfl, b, c⟩ := al2 r
    exact ⟨_, _, _, rfl, a, b, c⟩
/-- a promise of one argument: all that is told of it, what comes back -/
def S1 (A : Pd → Pd → Prop) : Sp := fun vs H Q _ => ∃ v P1 P, vs = [v] ∧ A P1 P ∧ P1.p H v ∧ ∀ u H', Ex H H' → P.p H' u → Q u H'
def S2 (A : Pd → Pd → Pd → Prop) : Sp := fun vs H Q _ => ∃ v1 v2 P1 P2 P, vs = [v1, v2] ∧ A P1 P2 P ∧ P1.p H v1 ∧ P2.p H v2 ∧ ∀ u H', Ex H H' → P.p H' u → Q u H'
def S3 (A : Pd → Pd → Pd → Pd → Prop) : Sp := fun vs H Q _ => ∃ v1 v2 v3 P1 P2 P3 P, vs = [v1, v2, v3] ∧ A P1 P2 P3 P ∧ P1.p H v1 ∧ P2.p H v2 ∧ P3.p H v3 ∧ ∀ u H', Ex H H' → P.p H' u → Q u H'
theorem S1.len {A : Pd → Pd → Prop} {x : Str} : ∀ vs H Q E, S1 A vs H Q E → vs.length = [x].length := fun vs H Q E ⟨v, _, _, e, _⟩ => by
  subst e
  rfl
theorem S2.len {A : Pd → Pd → Pd → Prop} {x y : Str} : ∀ vs H Q E, S2 A vs H Q E → vs.length = [x, y].length := fun vs H Q E ⟨v, w, _, _, _, e, _⟩ => by
  subst e
  rfl
theorem S3.len {A : Pd → Pd → Pd → Pd → Prop} {x y z : Str} : ∀ vs H Q E, S3 A vs H Q E → vs.length = [x, y, z].length := fun vs H Q E ⟨v, w, u, _, _, _, _, e, _⟩ => by
  subst e
  rfl
/-- .. whose result is new -/
def S1W (A : Pd → Pd → Prop) : Sp := fun vs H Q _ => ∃ v P1 P, vs = [v] ∧ A P1 P ∧ P1.p H v ∧ ∀ p H', H p = none → H' p ≠ none → Ex H H' → P.p H' (.ref p) → Q (.ref p) H'
def S2W (A : Pd → Pd → Pd → Prop) : Sp := fun vs H Q _ => ∃ v1 v2 P1 P2 P, vs = [v1, v2] ∧ A P1 P2 P ∧ P1.p H v1 ∧ P2.p H v2 ∧ ∀ p H', H p = none → H' p ≠ none → Ex H H' → P.p H' (.ref p) → Q (.ref p) H'
def S3W (A : Pd → Pd → Pd → Pd → Prop) : Sp := fun vs H Q _ => ∃ v1 v2 v3 P1 P2 P3 P, vs = [v1, v2, v3] ∧ A P1 P2 P3 P ∧ P1.p H v1 ∧ P2.p H v2 ∧ P3.p H v3 ∧ ∀ p H', H p = none → H' p ≠ none → Ex H H' → P.p H' (.ref p) → Q (.ref p) H'
theorem S1W.len {A : Pd → Pd → Prop} {x : Str} : ∀ vs H Q E, S1W A vs H Q E → vs.length = [x].length := fun vs H Q E ⟨v, _, _, e, _⟩ => by
  subst e
  rfl
theorem S2W.len {A : Pd → Pd → Pd → Prop} {x y : Str} : ∀ vs H Q E, S2W A vs H Q E → vs.length = [x, y].length := fun vs H Q E ⟨v, w, _, _, _, e, _⟩ => by
  subst e
  rfl
theorem S3W.len {A : Pd → Pd → Pd → Pd → Prop} {x y z : Str} : ∀ vs H Q E, S3W A vs H Q E → vs.length = [x, y, z].length := fun vs H Q E ⟨v, w, u, _, _, _, _, e, _⟩ => by
  subst e
  rfl
section
variable {s : TSt} {H : Hp} {tr : TA} {E : XK} {P1 P2 P3 Pz : Pd}
theorem ew_c1 {A : Pd → Pd → Prop} (h : EvA tr s H [P1]) (a : A P1 Pz) : EvW (tCall (S1W A) [] E tr) s H Pz := fun H1 e Q q =>
  h H1 e _ fun vs H2 e2 hvs => by
    obtain ⟨v, rfl, hv⟩ := al1 hvs
    exact ⟨v, P1, Pz, rfl, a, hv, fun p H' n n' e3 hu => q p H' (e2.back n) n' (e2.tr e3) hu⟩
theorem ew_c2 {A : Pd → Pd → Pd → Prop} (h : EvA tr s H [P1, P2]) (a : A P1 P2 Pz) : EvW (tCall (S2W A) [] E tr) s H Pz := fun H1 e Q q =>
  h H1 e _ fun vs H2 e2 hvs => by
    obtain ⟨v, w, rfl, hv, hw⟩ := al2 hvs
    exact ⟨v, w, P1, P2, Pz, rfl, a, hv, hw, fun p H' n n' e3 hu => q p H' (e2.back n) n' (e2.tr e3) hu⟩
theorem ew_c3 {A : Pd → Pd → Pd → Pd → Prop} (h : EvA tr s H [P1, P2, P3]) (a : A P1 P2 P3 Pz) : EvW (tCall (S3W A) [] E tr) s H Pz := fun H1 e Q q =>
  h H1 e _ fun vs H2 e2 hvs => by
    obtain ⟨v, w, x, rfl, hv, hw, hx⟩ := al3 hvs
    exact ⟨v, w, x, P1, P2, P3, Pz, rfl, a, hv, hw, hx, fun p H' n n' e3 hu => q p H' (e2.back n) n' (e2.tr e3) hu⟩
end
section
variable {s : TSt} {H : Hp} {tr : TA} {E : XK} {P1 P2 P3 Pz : Pd}
theorem ev_c1 {A : Pd → Pd → Prop} (h : EvA tr s H [P1]) (a : A P1 Pz) : EvP (tCall (S1 A) [] E tr) s H Pz := fun H1 e Q q =>
  h H1 e _ fun vs H2 e2 hvs => by
    obtain ⟨v, rfl, hv⟩ := al1 hvs
    exact ⟨v, P1, Pz, rfl, a, hv, fun u H' e3 hu => q u H' (e2.tr e3) hu⟩
theorem ev_c2 {A : Pd → Pd → Pd → Prop} (h : EvA tr s H [P1, P2]) (a : A P1 P2 Pz) : EvP (tCall (S2 A) [] E tr) s H Pz := fun H1 e Q q =>
  h H1 e _ fun vs H2 e2 hvs => by
    obtain ⟨v, w, rfl, hv, hw⟩ := al2 hvs
    exact ⟨v, w, P1, P2, Pz, rfl, a, hv, hw, fun u H' e3 hu => q u H' (e2.tr e3) hu⟩
theorem ev_c3 {A : Pd → Pd → Pd → Pd → Prop} (h : EvA tr s H [P1, P2, P3]) (a : A P1 P2 P3 Pz) : EvP (tCall (S3 A) [] E tr) s H Pz := fun H1 e Q q =>
  h H1 e _ fun vs H2 e2 hvs => by
    obtain ⟨v, w, x, rfl, hv, hw, hx⟩ := al3 hvs
    exact ⟨v, w, x, P1, P2, P3, Pz, rfl, a, hv, hw, hx, fun u H' e3 hu => q u H' (e2.tr e3) hu⟩
end

/-! isinstance -/
section
variable {s : TSt} {H : Hp} {tx tc : TE}
theorem ev_isI {i : Int} {c : String} {b : Bool} (hx : EvP tx s H (en i)) (h : PySem.W.kitOne K (.type "int") (.type c) = some b) : EvP (tCB (rIsi K) (tCons tx (tCons (tC (.ty c)) tNil))) s H (en b) := fun H1 e Q q =>
  hx H1 e _ fun v H2 e2 hv => by
    obtain rfl : v = .int i := hv
    exact ⟨.int i, .ty c, .type "int", .type c, b, rfl, .ty c, .base (.int i), h, q _ H2 e2 rfl⟩
theorem ev_isT {α : Type} [DecidableEq α] [Enc α] {xs : List α} {c : String} {b : Bool} (hx : EvP tx s H (en xs)) (h : PySem.W.kitOne K (.type "tuple") (.type c) = some b) : EvP (tCB (rIsi K) (tCons tx (tCons (tC (.ty c)) tNil))) s H (en b) := fun H1 e Q q =>
  hx H1 e _ fun v H2 e2 hv => by
    obtain ⟨a, us, rfl, h1, _⟩ := hv
    exact ⟨.ref a, .ty c, .type "tuple", .type c, b, rfl, .ty c, .base (.tup h1), h, q _ H2 e2 rfl⟩
theorem ev_isP {α β : Type} [DecidableEq α] [Enc α] [DecidableEq β] [Enc β] {x : α × β} {c : String} {b : Bool} (hx : EvP tx s H (en x)) (h : PySem.W.kitOne K (.type "tuple") (.type c) = some b) : EvP (tCB (rIsi K) (tCons tx (tCons (tC (.ty c)) tNil))) s H (en b) := fun H1 e Q q =>
  hx H1 e _ fun v H2 e2 hv => by
    obtain ⟨a, u, w, rfl, h1, _⟩ := hv
    exact ⟨.ref a, .ty c, .type "tuple", .type c, b, rfl, .ty c, .base (.tup h1), h, q _ H2 e2 rfl⟩
theorem ev_isL2 {α : Type} [DecidableEq α] [Enc α] {xs : List α} {c d : String} {b : Bool} (hx : EvP tx s H (li xs)) (h : PySem.W.kitAny K (.type "list") [.type c, .type d] = some b) :
    EvP (tCB (rIsiT K) (tCons tx (tCons (tTup (tCons (tC (.ty c)) (tCons (tC (.ty d)) tNil))) tNil))) s H (en b) := fun H1 e Q q =>
  hx H1 e _ fun v H2 e2 hv => ⟨by show 2 ≤ sizeLine; decide, fun p hp => by
    obtain ⟨a, rfl, us, h1, _⟩ := (li xs).up (Ex.new hp) hv
    exact ⟨.ref a, p, _, .type "list", _, b, rfl, upd_same, .cons (.ty c) (.cons (.ty d) .nil), .base (.lst h1), h, q _ _ (e2.tr (Ex.new hp)) rfl⟩⟩
end
end
end TB
set_option Elab.async false
set_option linter.all false
set_option maxRecDepth 100000
set_option maxHeartbeats 2000000
/-! D1: the smallest defs. -/
namespace TB
open PySem PySem.Spec PyProof.Rows L2
section
variable {P : Program} {w : World} {K : PySem.W.Frag} {mg : Str → Option Value} {base : Heap}
abbrev s_is_whole : Stmt := topS 7
abbrev n_is_whole : List Str := ["value"]
theorem sc_is_whole : FnScope n_is_whole ["value"] (defScope s_is_whole) := ⟨rfl, rfl, rfl, by decide +kernel, rfl, by decide +kernel, by decide +kernel⟩
abbrev s_law_is_whole : Stmt := topS 38
abbrev n_law_is_whole : List Str := ["_law_value"]
theorem sc_law_is_whole : FnScope n_law_is_whole ["_law_value"] (defScope s_law_is_whole) := ⟨rfl, rfl, rfl, by decide +kernel, rfl, by decide +kernel, by decide +kernel⟩
def spWhole : Sp := S1 fun P1 Pz => ∃ i : Int, P1 = en i ∧ Pz = en true
theorem ok_is_whole (T : Txt K mg "is_whole" "is_whole" s_is_whole ["value"]) (Z : Blt mg) : Cal P w K mg base 1 "is_whole" ["value"] spWhole :=
  T.cal sc_is_whole S1.len fun f cdv A outer s H vs Q E hr h => by
    obtain ⟨v, P1, Pz, rfl, ⟨i, rfl, rfl⟩, hv, q⟩ := h
    refine ⟨_, (pss_one (ps_ret (pe_and (pe_callB call_isi (by rfl) Z.isinstance (by decide +kernel) (pa_cons (pv 0) (pa_cons (pe_bltn (v := .ty "int") (by rfl) Z.int (by decide +kernel) rfl) pa_nil))) (pe_one (pe_not (pe_callB call_isi (by rfl) Z.isinstance (by decide +kernel) (pa_cons (pv 0) (pa_cons (pe_bltn (v := .ty "bool") (by rfl) Z.bool (by decide +kernel) rfl) pa_nil)))))))), ?_⟩
    exact s_ret (P := en (true && (!false))) (ev_andV (ev_isI (i := i) (ev_var rfl hv) (by rfl)) fun _ => ev_notV (ev_isI (i := i) (ev_var rfl hv) (by rfl))) fun v H1 e h => q v H1 e h
theorem ok_law_is_whole (T : Txt K mg "_law_is_whole" "_law_is_whole" s_law_is_whole ["_law_value"]) (Z : Blt mg) : Cal P w K mg base 1 "_law_is_whole" ["_law_value"] spWhole :=
  T.cal sc_law_is_whole S1.len fun f cdv A outer s H vs Q E hr h => by
    obtain ⟨v, P1, Pz, rfl, ⟨i, rfl, rfl⟩, hv, q⟩ := h
    refine ⟨_, (pss_one (ps_ret (pe_and (pe_callB call_isi (by rfl) Z.isinstance (by decide +kernel) (pa_cons (pv 0) (pa_cons (pe_bltn (v := .ty "int") (by rfl) Z.int (by decide +kernel) rfl) pa_nil))) (pe_one (pe_not (pe_callB call_isi (by rfl) Z.isinstance (by decide +kernel) (pa_cons (pv 0) (pa_cons (pe_bltn (v := .ty "bool") (by rfl) Z.bool (by decide +kernel) rfl) pa_nil)))))))), ?_⟩
    exact s_ret (P := en (true && (!false))) (ev_andV (ev_isI (i := i) (ev_var rfl hv) (by rfl)) fun _ => ev_notV (ev_isI (i := i) (ev_var rfl hv) (by rfl))) fun v H1 e h => q v H1 e h
def spIsList : Sp := S1 fun P1 Pz => ∃ xs : List Int, P1 = li xs ∧ Pz = en true
abbrev s_is_cell : Stmt := topS 8
abbrev n_is_cell : List Str := ["value"]
theorem sc_is_cell : FnScope n_is_cell ["value"] (defScope s_is_cell) := ⟨rfl, rfl, rfl, by decide +kernel, rfl, by decide +kernel, by decide +kernel⟩
abbrev s_law_t2_is_cell : Stmt := topS 41
abbrev n_law_t2_is_cell : List Str := ["_law_one"]
theorem sc_law_t2_is_cell : FnScope n_law_t2_is_cell ["_law_one"] (defScope s_law_t2_is_cell) := ⟨rfl, rfl, rfl, by decide +kernel, rfl, by decide +kernel, by decide +kernel⟩
def spIsCell : Sp := S1 fun P1 Pz => ∃ c : Cell, P1 = en c ∧ Pz = en true
theorem ev_lenP {K : PySem.W.Frag} {ta : TE} {s : TSt} {H : Hp} {α β : Type} [DecidableEq α] [Enc α] [DecidableEq β] [Enc β] {x : α × β} {r : List V → Hp → VK → Prop} (hr : r = fun xs H Q => ∃ p ys, xs = [V.ref p] ∧ (SqL K H p ys ∨ SqT K H p ys) ∧ Q (.int ys.length) H) (ha : EvP ta s H (en x)) : EvP (tCB r (tCons ta tNil)) s H (en (2 : Int)) := fun H1 e Q q =>
  ha H1 e _ fun v H2 e2 hv => by
    obtain ⟨p, u, w, rfl, h1, h2⟩ := hv
    subst hr
    exact ⟨p, _, rfl, .inr (.inl (.inl h1)), q _ H2 e2 rfl⟩
theorem ok_is_cell (T : Txt K mg "is_cell" "is_cell" s_is_cell ["value"]) (Z : Blt mg) (C_is_whole : Cal P w K mg base 1 "is_whole" ["value"] spWhole) : Cal P w K mg base 2 "is_cell" ["value"] spIsCell :=
  T.cal sc_is_cell S1.len fun f cdv A outer s H vs Q E hr h => by
    obtain ⟨v, P1, Pz, rfl, ⟨c, rfl, rfl⟩, hv, q⟩ := h
    refine ⟨_, (pss_one (ps_ret (pe_and (pe_callB call_isi (by rfl) Z.isinstance (by decide +kernel) (pa_cons (pv 0) (pa_cons (pe_bltn (v := .ty "tuple") (by rfl) Z.tuple (by decide +kernel) rfl) pa_nil))) (pe_and (pe_cmpR op_eq (pe_callB call_len_seq (by rfl) Z.len (by decide +kernel) (pa_cons (pv 0) pa_nil)) pe_int (nomark _)) (pe_and (pe_cal C_is_whole (hr.mono (by decide)) (pa_cons (pe_ix ix_tup (pv 0) pe_int (fun _ _ => rfl)) pa_nil)) (pe_one (pe_cal C_is_whole (hr.mono (by decide)) (pa_cons (pe_ix ix_tup (pv 0) pe_int (fun _ _ => rfl)) pa_nil)))))))), ?_⟩
    refine s_ret (P := en (true && (decide ((2 : Int) = 2) && (true && true)))) (ev_andV (ev_isP (x := c) (ev_var rfl hv) (by rfl)) fun _ => ev_andV (ev_eqI (ev_lenP (x := c) rfl (ev_var rfl hv)) ev_int) fun _ => ev_andV (ev_c1 (P1 := en c.1) (ea_cons (ev_fst (ev_var rfl hv)) ea_nil) ⟨_, rfl, rfl⟩) fun _ => ev_c1 (P1 := en c.2) (ea_cons (ev_snd (ev_var rfl hv)) ea_nil) ⟨_, rfl, rfl⟩) fun v H1 e h => q v H1 e h
theorem ok_law_is_cell (T : Txt K mg "_law_t2_is_cell" "_law_t2_is_cell" s_law_t2_is_cell ["_law_one"]) (Z : Blt mg) (C_law_is_whole : Cal P w K mg base 1 "_law_is_whole" ["_law_value"] spWhole) : Cal P w K mg base 2 "_law_t2_is_cell" ["_law_one"] spIsCell :=
  T.cal sc_law_t2_is_cell S1.len fun f cdv A outer s H vs Q E hr h => by
    obtain ⟨v, P1, Pz, rfl, ⟨c, rfl, rfl⟩, hv, q⟩ := h
    refine ⟨_, (pss_one (ps_ret (pe_and (pe_callB call_isi (by rfl) Z.isinstance (by decide +kernel) (pa_cons (pv 0) (pa_cons (pe_bltn (v := .ty "tuple") (by rfl) Z.tuple (by decide +kernel) rfl) pa_nil))) (pe_and (pe_cmpR op_eq (pe_callB call_len_seq (by rfl) Z.len (by decide +kernel) (pa_cons (pv 0) pa_nil)) pe_int (nomark _)) (pe_and (pe_cal C_law_is_whole (hr.mono (by decide)) (pa_cons (pe_ix ix_tup (pv 0) pe_int (fun _ _ => rfl)) pa_nil)) (pe_one (pe_cal C_law_is_whole (hr.mono (by decide)) (pa_cons (pe_ix ix_tup (pv 0) pe_int (fun _ _ => rfl)) pa_nil)))))))), ?_⟩
    refine s_ret (P := en (true && (decide ((2 : Int) = 2) && (true && true)))) (ev_andV (ev_isP (x := c) (ev_var rfl hv) (by rfl)) fun _ => ev_andV (ev_eqI (ev_lenP (x := c) rfl (ev_var rfl hv)) ev_int) fun _ => ev_andV (ev_c1 (P1 := en c.1) (ea_cons (ev_fst (ev_var rfl hv)) ea_nil) ⟨_, rfl, rfl⟩) fun _ => ev_c1 (P1 := en c.2) (ea_cons (ev_snd (ev_var rfl hv)) ea_nil) ⟨_, rfl, rfl⟩) fun v H1 e h => q v H1 e h
abbrev s_check_cell : Stmt := topS 10
abbrev n_check_cell : List Str := ["value"]
theorem sc_check_cell : FnScope n_check_cell ["value"] (defScope s_check_cell) := ⟨rfl, rfl, rfl, by decide +kernel, rfl, by decide +kernel, by decide +kernel⟩
def spCheckCell : Sp := S1 fun P1 Pz => ∃ c : Cell, P1 = en c ∧ Pz = nn
theorem ok_check_cell (T : Txt K mg "check_cell" "check_cell" s_check_cell ["value"]) (C_is_cell : Cal P w K mg base 2 "is_cell" ["value"] spIsCell) : Cal P w K mg base 3 "check_cell" ["value"] spCheckCell :=
  T.cal sc_check_cell S1.len fun f cdv A outer s H vs Q E hr h => by
    obtain ⟨v, P1, Pz, rfl, ⟨c, rfl, rfl⟩, hv, q⟩ := h
    refine ⟨_, (pss_one (ps_if (pt_not (pt_val (pe_cal C_is_cell (hr.mono (by decide)) (pa_cons (pv 0) pa_nil)))) (pss_one ps_never) pss_nil)), ?_⟩
    exact s_if (b := !true) (eb_not (eb_B (ev_c1 (P1 := en c) (ea_cons (ev_var rfl hv) ea_nil) ⟨_, rfl, rfl⟩))) (fun h => Bool.noConfusion h) fun _ H1 e => q _ H1 e rfl
/-- the four squares beside a square -/
def nbs (c : Cell) : List Cell := [(c.1 - 1, c.2), (c.1, c.2 - 1), (c.1 + 1, c.2), (c.1, c.2 + 1)]
abbrev s_beside : Stmt := topS 11
abbrev n_beside : List Str := ["cell", "column", "row"]
theorem sc_beside : FnScope n_beside ["cell"] (defScope s_beside) := ⟨rfl, rfl, rfl, by decide +kernel, rfl, by decide +kernel, by decide +kernel⟩
def spBeside : Sp := S1 fun P1 Pz => ∃ c : Cell, P1 = en c ∧ Pz = en (nbs c)
theorem ok_beside (T : Txt K mg "beside" "beside" s_beside ["cell"]) (C_check_cell : Cal P w K mg base 3 "check_cell" ["value"] spCheckCell) : Cal P w K mg base 4 "beside" ["cell"] spBeside :=
  T.cal sc_beside S1.len fun f cdv A outer s H vs Q E hr h => by
    obtain ⟨v, P1, Pz, rfl, ⟨c, rfl, rfl⟩, hv, q⟩ := h
    refine ⟨_, (pss_cons (ps_expr (pe_cal C_check_cell (hr.mono (by decide)) (pa_cons (pv 0) pa_nil)))
      (pss_cons (ps_asg (pv 0) (pg_tup rfl (pgs_cons (pg_name (i := 1) sc_beside.nd rfl (Or.inl rfl)) (pgs_cons (pg_name (i := 2) sc_beside.nd rfl (Or.inl rfl)) pgs_nil))))
      (pss_one (ps_ret (pe_tup (pa_cons (pe_tup (pa_cons (pe_op op_sub (pv 1) pe_int) (pa_cons (pv 2) pa_nil))) (pa_cons (pe_tup (pa_cons (pv 1) (pa_cons (pe_op op_sub (pv 2) pe_int) pa_nil))) (pa_cons (pe_tup (pa_cons (pe_op op_add (pv 1) pe_int) (pa_cons (pv 2) pa_nil))) (pa_cons (pe_tup (pa_cons (pv 1) (pa_cons (pe_op op_add (pv 2) pe_int) pa_nil))) pa_nil))))))))), ?_⟩
    refine q_drop (P := nn) (ev_c1 (P1 := en c) (ea_cons (ev_var rfl hv) ea_nil) ⟨_, rfl, rfl⟩) fun H1 e1 => ?_
    refine q_asgP (x := c) (ev_var rfl (en_up e1 hv)) fun v1 v2 H2 e2 h1 h2 => ?_
    refine s_ret (P := en (nbs c)) ?_ fun v H3 e3 h => ?_
    rotate_left
    · exact q v H3 ((e1.tr e2).tr e3) h
    refine ev_tup (xs := nbs c) ?_ (Nat.le_of_ble_eq_true rfl)
    exact (ea_cons (ev_pair (x := c.1 - 1) (y := c.2) (ev_I (ev_var rfl h1) ev_int) (ev_var rfl h2)) (ea_cons (ev_pair (x := c.1) (y := c.2 - 1) (ev_var rfl h1) (ev_I (ev_var rfl h2) ev_int))
      (ea_cons (ev_pair (x := c.1 + 1) (y := c.2) (ev_I (ev_var rfl h1) ev_int) (ev_var rfl h2)) (ea_cons (ev_pair (x := c.1) (y := c.2 + 1) (ev_var rfl h1) (ev_I (ev_var rfl h2) ev_int)) ea_nil))))
abbrev s_law_t2_beside : Stmt := topS 39
abbrev n_law_t2_beside : List Str := ["_law_cell"]
theorem sc_law_t2_beside : FnScope n_law_t2_beside ["_law_cell"] (defScope s_law_t2_beside) := ⟨rfl, rfl, rfl, by decide +kernel, rfl, by decide +kernel, by decide +kernel⟩
def spBesideL : Sp := S1W fun P1 Pz => ∃ c : Cell, P1 = en c ∧ Pz = li (nbs c)
theorem ok_law_beside (T : Txt K mg "_law_t2_beside" "_law_t2_beside" s_law_t2_beside ["_law_cell"]) : Cal P w K mg base 1 "_law_t2_beside" ["_law_cell"] spBesideL :=
  T.cal sc_law_t2_beside S1W.len fun f cdv A outer s H vs Q E hr h => by
    obtain ⟨v, P1, Pz, rfl, ⟨c, rfl, rfl⟩, hv, q⟩ := h
    refine ⟨_, (pss_one (ps_ret (pe_lst (pa_cons (pe_tup (pa_cons (pe_op op_sub (pe_ix ix_tup (pv 0) pe_int (fun _ _ => rfl)) pe_int) (pa_cons (pe_ix ix_tup (pv 0) pe_int (fun _ _ => rfl)) pa_nil))) (pa_cons (pe_tup (pa_cons (pe_ix ix_tup (pv 0) pe_int (fun _ _ => rfl)) (pa_cons (pe_op op_sub (pe_ix ix_tup (pv 0) pe_int (fun _ _ => rfl)) pe_int) pa_nil))) (pa_cons (pe_tup (pa_cons (pe_op op_add (pe_ix ix_tup (pv 0) pe_int (fun _ _ => rfl)) pe_int) (pa_cons (pe_ix ix_tup (pv 0) pe_int (fun _ _ => rfl)) pa_nil))) (pa_cons (pe_tup (pa_cons (pe_ix ix_tup (pv 0) pe_int (fun _ _ => rfl)) (pa_cons (pe_op op_add (pe_ix ix_tup (pv 0) pe_int (fun _ _ => rfl)) pe_int) pa_nil))) pa_nil))))))), ?_⟩
    refine s_retN (xs := nbs c) ?_ fun p H3 n e3 h => q p H3 n h.nn e3 ⟨p, rfl, h⟩
    have hc : EvP (tVar 0) (start n_law_t2_beside [v]) H (en c) := ev_var rfl hv
    refine en_lst (xs := nbs c) ?_ (Nat.le_of_ble_eq_true rfl)
    exact (ea_cons (ev_pair (x := c.1 - 1) (y := c.2) (ev_I (ev_fst hc) ev_int) (ev_snd hc)) (ea_cons (ev_pair (x := c.1) (y := c.2 - 1) (ev_fst hc) (ev_I (ev_snd hc) ev_int))
      (ea_cons (ev_pair (x := c.1 + 1) (y := c.2) (ev_I (ev_fst hc) ev_int) (ev_snd hc)) (ea_cons (ev_pair (x := c.1) (y := c.2 + 1) (ev_fst hc) (ev_I (ev_snd hc) ev_int)) ea_nil))))
end
end TB
set_option Elab.async false
set_option linter.all false
set_option maxRecDepth 100000
set_option maxHeartbeats 2000000
/-! M1: squares that hang together. -/
namespace TB
theorem snocInd {α : Type} {P : List α → Prop} (h0 : P []) (h1 : ∀ r x, P r → P (r ++ [x])) (l : List α) : P l := by
  rw [← List.reverse_reverse l]
  induction l.reverse with
  | nil => exact h0
  | cons x r ih =>
    rw [List.reverse_cons]
    exact h1 _ _ ih
theorem nbs_symm {a b : Cell} (h : b ∈ nbs a) : a ∈ nbs b := by
  obtain ⟨a1, a2⟩ := a
  obtain ⟨b1, b2⟩ := b
  simp only [nbs, List.mem_cons, Prod.mk.injEq, List.not_mem_nil, or_false] at *
  omega
inductive Reach (S : Cell → Prop) : Cell → Cell → Prop where
  | refl {x : Cell} (h : S x) : Reach S x x
  | step {x y z : Cell} (h : Reach S x y) (a : z ∈ nbs y) (s : S z) : Reach S x z
theorem Reach.src {S : Cell → Prop} {x y : Cell} (h : Reach S x y) : S x := by
  induction h with
  | refl h => exact h
  | step _ _ _ ih => exact ih
theorem Reach.dst {S : Cell → Prop} {x y : Cell} (h : Reach S x y) : S y := by
  cases h with
  | refl h => exact h
  | step _ _ s => exact s
theorem Reach.tr {S : Cell → Prop} {x y z : Cell} (h : Reach S x y) (k : Reach S y z) : Reach S x z := by
  induction k with
  | refl _ => exact h
  | step _ a s ih => exact .step ih a s
theorem Reach.sy {S : Cell → Prop} {x y : Cell} (h : Reach S x y) : Reach S y x := by
  induction h with
  | refl h => exact .refl h
  | step h a s ih => exact Reach.tr (.step (.refl s) (nbs_symm a) h.dst) ih
theorem Reach.wide {S T : Cell → Prop} {x y : Cell} (h : Reach S x y) (w : ∀ x, S x → T x) : Reach T x y := by
  induction h with
  | refl h => exact .refl (w _ h)
  | step _ a s ih => exact .step ih a (w _ s)
/-- a set that no way leaves -/
theorem Reach.inside {S T : Cell → Prop} {x y : Cell} (h : Reach S x y) (hx : T x) (c : ∀ a b, T a → S a → b ∈ nbs a → S b → T b) : T y ∧ Reach T x y := by
  induction h with
  | refl h => exact ⟨hx, .refl hx⟩
  | step h a s ih =>
    have t := c _ _ ih.1 h.dst a s
    exact ⟨t, .step ih.2 a t⟩
/-- the squares hang together -/
def Hang (cs : List Cell) : Prop := cs ≠ [] ∧ ∀ x, x ∈ cs → ∀ y, y ∈ cs → Reach (· ∈ cs) x y
theorem Hang.perm {a b : List Cell} (h : Hang a) (p : ∀ x, x ∈ a ↔ x ∈ b) : Hang b := by
  obtain ⟨n, h⟩ := h
  refine ⟨fun e => n ?_, fun x hx y hy => (h x ((p x).mpr hx) y ((p y).mpr hy)).wide fun z hz => (p z).mp hz⟩
  subst e
  cases a with
  | nil => rfl
  | cons x r => exact absurd ((p x).mp List.mem_cons_self) List.not_mem_nil
theorem hang_of {cs : List Cell} {c : Cell} (hc : c ∈ cs) (h : ∀ x, x ∈ cs → Reach (· ∈ cs) c x) : Hang cs := ⟨fun e => by rw [e] at hc; exact absurd hc List.not_mem_nil, fun x hx y hy => (h x hx).sy.tr (h y hy)⟩

/-- what holds between two squares of the outer turn: L is left, n parts were found -/
structure PInv (cs : List Cell) (L : Cell → Prop) (n : Nat) : Prop where
  sub : ∀ x, L x → x ∈ cs
  clo : ∀ x z, L x → z ∈ nbs x → z ∈ cs → L z
  n0 : n = 0 → ∀ x, x ∈ cs → L x
  n1 : n = 1 → ∃ c, c ∈ cs ∧ ∀ x, x ∈ cs → ¬ L x → Reach (· ∈ cs) c x
  n2 : 2 ≤ n → ∃ c, c ∈ cs ∧ ∃ x, x ∈ cs ∧ ¬ Reach (· ∈ cs) c x
  n3 : 1 ≤ n → ∃ c, c ∈ cs ∧ ¬ L c
theorem PInv.start {cs : List Cell} {L : Cell → Prop} (h : ∀ x, L x ↔ x ∈ cs) : PInv cs L 0 where
  sub x hx := (h x).mp hx
  clo x z _ _ hz := (h z).mpr hz
  n0 _ x hx := (h x).mpr hx
  n1 e := by cases e
  n2 e := by omega
  n3 e := by omega
theorem PInv.next {cs : List Cell} {L L' : Cell → Prop} {n : Nat} {c : Cell} {part : List Cell} (I : PInv cs L n) (hc : L c) (hin : c ∈ part) (hr : ∀ x, x ∈ part → Reach L c x) (hcl : ∀ x, x ∈ part → ∀ z, z ∈ nbs x → L z → z ∈ part)
    (hL : ∀ x, L' x ↔ L x ∧ x ∉ part) : PInv cs L' (n + 1) where
  sub x hx := I.sub x ((hL x).mp hx).1
  clo x z hx hz hzc := by
    obtain ⟨h1, h2⟩ := (hL x).mp hx
    refine (hL z).mpr ⟨I.clo x z h1 hz hzc, fun hp => h2 (hcl z hp x (nbs_symm hz) h1)⟩
  n0 e := by omega
  n1 e := by
    obtain rfl : n = 0 := by omega
    refine ⟨c, I.sub c hc, fun x hx hn => ?_⟩
    have hLx := I.n0 rfl x hx
    have : x ∈ part := Classical.byContradiction fun z => hn ((hL x).mpr ⟨hLx, z⟩)
    exact (hr x this).wide I.sub
  n2 e := by
    obtain ⟨d, hd, hnd⟩ := I.n3 (by omega)
    refine ⟨c, I.sub c hc, d, hd, fun r => hnd ?_⟩
    exact (r.inside (T := L) hc fun a b ta _ hb sb => I.clo a b ta hb sb).1
  n3 _ := ⟨c, I.sub c hc, fun h => ((hL c).mp h).2 hin⟩
theorem PInv.done {cs : List Cell} {L : Cell → Prop} {n : Nat} (I : PInv cs L n) (h : ∀ x, x ∈ cs → ¬ L x) : n = 1 ↔ Hang cs := by
  constructor
  · intro e
    obtain ⟨c, hc, hr⟩ := I.n1 e
    exact hang_of hc fun x hx => hr x hx (h x hx)
  · intro ⟨hne, hr⟩
    by_cases e0 : n = 0
    · cases cs with
      | nil => exact absurd rfl hne
      | cons x r => exact absurd (I.n0 e0 x List.mem_cons_self) (h x List.mem_cons_self)
    · by_cases e1 : n = 1
      · exact e1
      · obtain ⟨c, hc, x, hx, nr⟩ := I.n2 (by omega)
        exact absurd (hr c hc x hx) nr

/-- the dict of a list of squares -/
def dall (cs : List Cell) : List (Cell × Bool) := cs.foldl (fun m c => dput m c true) []
theorem dall_snoc (cs : List Cell) (c : Cell) : dall (cs ++ [c]) = dput (dall cs) c true := by simp [dall, List.foldl_append]
theorem dall_mem {cs : List Cell} {c : Cell} : (dget (dall cs) c).isSome = true ↔ c ∈ cs := by
  induction cs using snocInd with
  | h0 => simp [dall, dget_nil]
  | h1 r x ih =>
    rw [dall_snoc, dget_put]
    by_cases e : c = x
    · simp [e]
    · rw [if_neg e, ih]
      simp [e]
theorem dall_keys {cs : List Cell} {c : Cell} : c ∈ (dall cs).map (·.1) ↔ c ∈ cs := by rw [← dget_some, dall_mem]
theorem dall_nd (cs : List Cell) : ((dall cs).map (·.1)).Nodup := by
  induction cs using snocInd with
  | h0 => exact List.nodup_nil
  | h1 r x ih =>
    rw [dall_snoc, dput_keys]
    split
    · exact ih
    · rename_i h
      rw [List.nodup_append]
      refine ⟨ih, by simp, fun a ha b hb e => h ?_⟩
      rw [List.mem_singleton] at hb
      rw [← hb, ← e]
      exact ha
theorem dall_len (cs : List Cell) : (dall cs).length ≤ cs.length := by
  induction cs using snocInd with
  | h0 => exact Nat.le_refl _
  | h1 r x ih =>
    rw [dall_snoc]
    have := dput_len (kvs := dall r) (k := x) (v := true)
    rw [List.length_append]
    simp only [List.length_singleton]
    omega
theorem take_snoc {α : Type} {xs : List α} {i : Nat} {x : α} (h : xs[i]? = some x) : xs.take (i + 1) = xs.take i ++ [x] := by
  rw [List.take_add_one, h]
  rfl
theorem dall_all {cs : List Cell} (h : cs.Nodup) : (dall cs).map (·.1) = cs := by
  induction cs using snocInd with
  | h0 => rfl
  | h1 r x ih =>
    rw [List.nodup_append] at h
    obtain ⟨h1, _, h3⟩ := h
    rw [dall_snoc, dput_keys, ih h1, if_neg fun z => h3 x z x List.mem_cons_self rfl]
end TB
set_option Elab.async false
set_option linter.all false
set_option maxRecDepth 100000
set_option maxHeartbeats 2000000
/-! M2: how one part grows. -/
namespace TB
theorem nodup_len {α : Type} [DecidableEq α] : ∀ {xs ys : List α}, xs.Nodup → (∀ x, x ∈ xs → x ∈ ys) → xs.length ≤ ys.length
  | [], _, _, _ => Nat.zero_le _
  | x :: r, ys, h, s => by
    obtain ⟨h1, h2⟩ := List.nodup_cons.mp h
    have hx := s x List.mem_cons_self
    have ih := nodup_len (xs := r) (ys := ys.erase x) h2 fun y hy => (List.mem_erase_of_ne fun e => h1 (by rw [← e]; exact hy)).mpr (s y (List.mem_cons_of_mem _ hy))
    rw [List.length_erase_of_mem hx] at ih
    have : 0 < ys.length := List.length_pos_of_mem hx
    simp only [List.length_cons]
    omega
/-- the part of c0 as far as it has grown: L0 was left before, m is left now -/
structure Gr (L0 : Cell → Prop) (c0 : Cell) (part : List Cell) (m : List (Cell × Bool)) (B : Nat) : Prop where
  nd : part.Nodup
  inn : c0 ∈ part
  reach : ∀ y, y ∈ part → Reach L0 c0 y
  left : ∀ y, (dget m y).isSome = true ↔ L0 y ∧ y ∉ part
  len : m.length ≤ B
theorem ddel_len {κ β : Type} [DecidableEq κ] {m : List (κ × β)} {k : κ} : (ddel m k).length ≤ m.length := List.length_filter_le _ _
theorem Gr.start {L0 : Cell → Prop} {c0 : Cell} {m : List (Cell × Bool)} {B : Nat} (h : ∀ y, (dget m y).isSome = true ↔ L0 y) (hc : L0 c0) (hl : m.length ≤ B) : Gr L0 c0 [c0] (ddel m c0) B where
  nd := by simp
  inn := List.mem_cons_self
  reach y hy := by
    rw [List.mem_singleton.mp hy]
    exact .refl hc
  left y := by
    rw [dget_del, List.mem_singleton]
    by_cases e : y = c0
    · simp [e]
    · rw [if_neg e, h]
      simp [e]
  len := Nat.le_trans ddel_len hl
theorem Gr.more {L0 : Cell → Prop} {c0 y z : Cell} {part : List Cell} {m : List (Cell × Bool)} {B : Nat} (G : Gr L0 c0 part m B) (hy : y ∈ part) (hz : z ∈ nbs y) (hs : (dget m z).isSome = true) : Gr L0 c0 (part ++ [z]) (ddel m z) B := by
  obtain ⟨l1, l2⟩ := (G.left z).mp hs
  refine ⟨?_, List.mem_append_left _ G.inn, fun w hw => ?_, fun w => ?_, Nat.le_trans ddel_len G.len⟩
  · rw [List.nodup_append]
    refine ⟨G.nd, by simp, fun a ha b hb e => l2 ?_⟩
    rw [List.mem_singleton.mp hb] at e
    rw [← e]
    exact ha
  · rcases List.mem_append.mp hw with h | h
    · exact G.reach w h
    · rw [List.mem_singleton.mp h]
      exact .step (G.reach y hy) hz l1
  · rw [dget_del, List.mem_append, List.mem_singleton]
    by_cases e : w = z
    · simp [e]
    · rw [if_neg e, G.left w]
      simp [e]
/-- the squares up to lap have all their neighbours -/
def Full (L0 : Cell → Prop) (part : List Cell) (lap : Nat) : Prop := ∀ j y, j < lap → part[j]? = some y → ∀ z, z ∈ nbs y → L0 z → z ∈ part
theorem Full.all {L0 : Cell → Prop} {part : List Cell} {lap : Nat} (F : Full L0 part lap) (h : part.length ≤ lap) : ∀ x, x ∈ part → ∀ z, z ∈ nbs x → L0 z → z ∈ part := fun x hx z hz hl => by
  obtain ⟨j, hj, e⟩ := List.getElem_of_mem hx
  exact F j x (by omega) (by rw [List.getElem?_eq_getElem hj, e]) z hz hl
theorem Full.more {L0 : Cell → Prop} {part t : List Cell} {lap : Nat} (F : Full L0 part lap) (h : lap ≤ part.length) : Full L0 (part ++ t) lap := fun j y hj e z hz hl => by
  rw [List.getElem?_append_left (by omega)] at e
  exact List.mem_append_left _ (F j y hj e z hz hl)
theorem Full.next {L0 : Cell → Prop} {part : List Cell} {lap : Nat} {y : Cell} (F : Full L0 part lap) (hy : part[lap]? = some y) (h : ∀ z, z ∈ nbs y → L0 z → z ∈ part) : Full L0 part (lap + 1) := fun j w hj e z hz hl => by
  by_cases q : j = lap
  · subst q
    rw [hy] at e
    cases e
    exact h z hz hl
  · exact F j w (by omega) e z hz hl
end TB
set_option Elab.async false
set_option linter.all false
set_option maxRecDepth 100000
set_option maxHeartbeats 2000000
/-! D2: parts, what hangs together. -/
namespace TB
open PySem PySem.Spec PyProof.Rows L2
section
variable {P : Program} {w : World} {K : PySem.W.Frag} {mg : Str → Option Value} {base : Heap}
abbrev s_law_t2_parts : Stmt := topS 40
abbrev n_law_t2_parts : List Str := ["_law_cells", "_law_left", "_law_found", "_law_cell", "_law_part", "_law_lap", "_law_one"]
theorem sc_law_t2_parts : FnScope n_law_t2_parts ["_law_cells"] (defScope s_law_t2_parts) := ⟨rfl, rfl, rfl, by decide +kernel, rfl, by decide +kernel, by decide +kernel⟩
def spParts : Sp := S1W fun P1 Pz => ∃ cells : List Cell, P1 = li cells ∧ cells.length ≤ 1000 ∧ Pz = liX fun pts : List (List Cell) => pts.length = 1 ↔ Hang cells
theorem ok_law_parts (T : Txt K mg "_law_t2_parts" "_law_t2_parts" s_law_t2_parts ["_law_cells"]) (Z : Blt mg) (C_law_t2_beside : Cal P w K mg base 1 "_law_t2_beside" ["_law_cell"] spBesideL) : Cal P w K mg base 2 "_law_t2_parts" ["_law_cells"] spParts :=
  T.cal sc_law_t2_parts S1W.len fun f cdv A outer s H vs Q E hr h => by
    obtain ⟨v, P1, Pz, rfl, ⟨cells, rfl, hlen, rfl⟩, ⟨a, rfl, ha⟩, q⟩ := h
    refine ⟨_, (pss_cons (ps_par (i := 1) (j := 2) rfl sc_law_t2_parts.nd rfl rfl (by decide) rfl rfl (pa_cons pe_dnewT (pa_cons (pe_lst pa_nil) pa_nil)) (by rfl))
      (pss_cons (ps_for PassesOwn.never rfl (pi_list (pv 0)) (pg_name (i := 3) sc_law_t2_parts.nd rfl (Or.inl rfl)) (pss_one (ps_dput (ru1 hr) (pv 1) (pv 3) pe_bl rfl)))
      (pss_cons (ps_for PassesOwn.never rfl (pi_list (pe_callB (cr_sortE (a := Cell) (by decide) (ru64 hr)) (by rfl) Z.sorted (by decide +kernel) (pa_cons (pe_callTy (call_list_dT rfl) (by rfl) Z.list (by decide +kernel) (pa_cons (pv 1) pa_nil)) pa_nil))) (pg_name (i := 3) sc_law_t2_parts.nd rfl (Or.inl rfl)) (pss_one (ps_if (pt_cmp ((pc_din (ru1 hr)) (pv 3) (pv 1))) (pss_cons (ps_set (i := 4) sc_law_t2_parts.nd rfl (Or.inl rfl) (pe_lst (pa_cons (pv 3) pa_nil)))
      (pss_cons (ps_expr (pe_bm PySem.F.plainAttrs_dict PySem.F.slot_dict_pop PySem.F.type_dict_pop (mt_pop1 (ru1 hr)) (pv 1) (pa_cons (pv 3) pa_nil)))
      (pss_cons (ps_for PassesOwn.never rfl (pi_range1 (by rfl) Z.range (pa_cons (pe_callB call_len_seq (by rfl) Z.len (by decide +kernel) (pa_cons (pv 0) pa_nil)) pa_nil)) (pg_name (i := 5) sc_law_t2_parts.nd rfl (Or.inl rfl)) (pss_cons (ps_if (pt_cmpR op_eq (pv 5) (pe_callB call_len_seq (by rfl) Z.len (by decide +kernel) (pa_cons (pv 4) pa_nil)) (nomark _)) (pss_one ps_break) pss_nil)
      (pss_one (ps_for PassesOwn.never rfl (pi_list (pe_cal C_law_t2_beside (hr.mono (by decide)) (pa_cons (pe_ix ix_list (pv 4) (pv 5) (fun _ _ => rfl)) pa_nil))) (pg_name (i := 6) sc_law_t2_parts.nd rfl (Or.inl rfl)) (pss_one (ps_if (pt_cmp ((pc_din (ru1 hr)) (pv 6) (pv 1))) (pss_cons (ps_expr (pe_bm PySem.F.plainAttrs_dict PySem.F.slot_dict_pop PySem.F.type_dict_pop (mt_pop1 (ru1 hr)) (pv 1) (pa_cons (pv 6) pa_nil)))
      (pss_one (ps_expr (pe_bm PySem.F.plainAttrs_list PySem.F.slot_list_append PySem.F.type_list_append mt_append (pv 4) (pa_cons (pv 6) pa_nil))))) pss_nil))))))
      (pss_one (ps_expr (pe_bm PySem.F.plainAttrs_list PySem.F.slot_list_append PySem.F.type_list_append mt_append (pv 2) (pa_cons (pe_callTy call_tuple_of (by rfl) Z.tuple (by decide +kernel) (pa_cons (pe_callB (cr_sortE (a := Cell) (by decide) (ru64 hr)) (by rfl) Z.sorted (by decide +kernel) (pa_cons (pv 4) pa_nil)) pa_nil)) pa_nil))))))) pss_nil)))
      (pss_one (ps_ret (pv 2)))))), ?_⟩
    refine q_parWW (ew_dict (β := Bool)) (en_nil (α := List Cell)).w fun d p H1 hd hp hdp e1 hD hL => ?_
    replace hD := ds_at hD
    replace hL := li_at hL
    have had : a ≠ d := ha.ne_new hd
    have hap : a ≠ p := ha.ne_new hp
    refine q_forA [d] (ha.up e1) (ev_vr rfl) (mem1 had) fun H2 e2 => ⟨fun i s' H' => ∃ v3, s' = [some (.ref a), some (.ref d), some (.ref p), v3, none, none, none] ∧ Mv [d] H2 H' ∧ Dc H' d (dall (cells.take i)), ⟨_, rfl, Mv.same, hD.up e2⟩, fun i s' H' ⟨_, _, m, _⟩ => m, fun i x v s' H' hx hv ⟨v3, es, m, hDi⟩ => ?_, fun s' H3 ⟨v3, es, m3, hD3⟩ => ?_⟩
    · subst es
      refine s_dput' hDi (ev_bl (b := true)) (ev_vr rfl) (ev_var rfl hv) (by
        have h1 := dall_len (cells.take i)
        have h2 := List.length_take_le' i cells
        omega) fun H3 e3 H4 b hD' => ?_
      exact ⟨_, rfl, (m.ex e3).but b (.inl List.mem_cons_self), by
        rw [take_snoc hx, dall_snoc]
        exact hD'⟩
    · subst es
      rw [List.take_length] at hD3
      have hE3 : Ex H H3 := (e1.tr e2).mv m3 (no1 hd)
      have hL3 : Ls H3 p ([] : List (List Cell)) := (hL.up e2).mv (mem1 hdp.symm) m3
      refine q_forN [d, p] (xs := srt ((dall cells).map (·.1))) (en_sort (en_keys rfl (ev_ds rfl hD3)).li (.inl fun x _ => ⟨_, _, rfl⟩)) (nn2 hD3.nn hL3.nn) fun H4 e4 => ⟨fun i s' H' => ∃ v3 v4 v5 v6, s' = [some (.ref a), some (.ref d), some (.ref p), v3, v4, v5, v6] ∧ Mv [d, p] H4 H' ∧
        ∃ (m : List (Cell × Bool)) (pts : List (List Cell)), Dc H' d m ∧ Ls H' p pts ∧ PInv cells (fun x => (dget m x).isSome = true) pts.length ∧ (∀ x, x ∈ (srt ((dall cells).map (·.1))).take i → dget m x = none) ∧ m.length ≤ 1000 ∧ pts.length ≤ i,
        ⟨_, _, _, _, rfl, Mv.same, dall cells, [], hD3.up e4, hL3.up e4, PInv.start fun x => dall_mem, fun x hx => by simp at hx, Nat.le_trans (dall_len cells) hlen, Nat.le_refl _⟩, fun i s' H' ⟨_, _, _, _, _, m, _⟩ => m, fun i x v s' H' hx hv ⟨v3, v4, v5, v6, es, mv, m, pts, hm, hpts, I, hno, hml, hpl⟩ => ?_, fun s' H' ⟨v3, v4, v5, v6, es, mv, m, pts, hm, hpts, I, hno, hml, hpl⟩ => ?_⟩
      · subst es
        have hE : Ex H H' := (hE3.tr e4).mv mv (no2 hd hp)
        refine s_ifN (eb_test (ev_inD (ev_var rfl hv) (ev_ds rfl hm))) (fun hin H5 e5 => ?_) fun hout H5 e5 => ?_
        · refine q_asgN (xs := [x]) (en_lst (xs := [x]) (ea_cons (ev_var rfl (en_up e5 hv)) ea_nil)) fun p4 H6 n4 e6 hP => ?_
          refine q_dpop (hm.up (e5.tr e6)) (ev_vr rfl) (ev_var rfl (en_up (e5.tr e6) hv)) hin fun H7 e7 H8 b8 hm8 => ?_
          have hp4d : p4 ≠ d := ((hm.up e5).ne_new n4).symm
          have hp4p : p4 ≠ p := ((hpts.up e5).ne_new n4).symm
          have hP8 := (hP.up e7).but hp4d b8
          have hpts8 := (hpts.up ((e5.tr e6).tr e7)).but hdp.symm b8
          have mv8 : Mv [d, p] H4 H8 := (((mv.ex e5).ex e6).ex e7).but b8 (.inl List.mem_cons_self)
          have hp40 : H4 p4 = none := (mv.ex e5).back (mem2 hp4d hp4p) n4
          have hE8 : Ex H H8 := (hE3.tr e4).mv mv8 (no2 hd hp)
          have hp4H : H p4 = none := (hE.tr e5).back n4
          refine q_with (fun s' H' => ∃ v5 v6 part m', s' = [some (.ref a), some (.ref d), some (.ref p), some v, some (.ref p4), v5, v6] ∧ Mv [d, p4] H8 H' ∧ Dc H' d m' ∧ Ls H' p4 part ∧ Gr (fun y => (dget m y).isSome = true) x part m' 1000 ∧ ∀ y, y ∈ part → ∀ z, z ∈ nbs y → (dget m z).isSome = true → z ∈ part)
            (fun s' H' ⟨v5, v6, part, m', es, mv', hm', hP', G, hcl⟩ => ?_) fun fin => ?_
          · subst es
            have hpts' : Ls H' p pts := hpts8.mv (mem2 hdp.symm hp4p.symm) mv'
            refine s_app' (x := srt part) hpts' (ev_vr rfl) (ev_tupleL rfl (en_sort (ev_li rfl hP') (.inl fun x _ => ⟨_, _, rfl⟩)).li) (by
              have h1 := List.getElem?_eq_some_iff.mp hx
              obtain ⟨h1, _⟩ := h1
              rw [srt_len, List.length_map] at h1
              have h2 := dall_len cells
              omega) fun H9 e9 H10 b10 hpts10 => ?_
            refine ⟨_, _, _, _, rfl, ((mv8.trw mv' fun a ha => ?_).ex e9).but b10 (.inl ?_), m', pts ++ [srt part], (hm'.up e9).but hdp b10, hpts10, ?_, fun y hy => ?_, G.len, ?_⟩
            · rcases List.mem_cons.mp ha with z | z
              · exact .inl (by rw [z]; exact List.mem_cons_self)
              · rw [List.mem_singleton.mp z]
                exact .inr hp40
            · exact List.mem_cons_of_mem _ List.mem_cons_self
            · rw [List.length_append]
              exact I.next hin G.inn G.reach hcl G.left
            · rw [take_snoc hx] at hy
              cases hz : dget m' y with
              | none => rfl
              | some b =>
                have h1 := (G.left y).mp (by rw [hz]; rfl)
                rcases List.mem_append.mp hy with h2 | h2
                · have := hno y h2
                  rw [this] at h1
                  cases h1.1
                · rw [List.mem_singleton.mp h2] at h1
                  exact absurd G.inn h1.2
            · rw [List.length_append]
              exact Nat.succ_le_succ hpl
          · have G0 := Gr.start (L0 := fun y => (dget m y).isSome = true) (c0 := x) (m := m) (B := 1000) (fun y => Iff.rfl) hin hml
            refine q_forR1 (n := (cells.length : Int)) (ea_cons (ev_len rfl (ev_li rfl (ha.up hE8))) ea_nil) (by omega) fun H9 e9 => ⟨fun lap s' H' => ∃ v5 v6 part m', s' = [some (.ref a), some (.ref d), some (.ref p), some v, some (.ref p4), v5, v6] ∧ Mv [d, p4] H8 H' ∧ Dc H' d m' ∧ Ls H' p4 part ∧
              Gr (fun y => (dget m y).isSome = true) x part m' 1000 ∧ Full (fun y => (dget m y).isSome = true) part lap ∧ lap ≤ part.length,
              ⟨v5, v6, [x], ddel m x, rfl, Mv.same.ex e9, hm8.up e9, hP8.up e9, G0, fun j y hj => by omega, Nat.zero_le _⟩, fun lap s' H' hlap ⟨v5, v6, part, m', es, mv', hm', hP', G, F, hle⟩ => ?_, fun s' H' ⟨v5, v6, part, m', es, mv', hm', hP', G, F, hle⟩ => fin _ _ ⟨v5, v6, part, m', es, mv', hm', hP', G, F.all ?_⟩⟩
            · subst es
              have hplen : part.length ≤ cells.length := nodup_len G.nd fun y hy => I.sub y (G.reach y hy).dst
              refine q_ifN (b := decide ((lap : Int) = part.length)) (eb_test (ev_eqI (ev_var rfl rfl) (ev_len rfl (ev_li rfl hP')))) (fun hb H10 e10 => fin _ _ ⟨_, _, part, m', rfl, mv'.ex e10, hm'.up e10, hP'.up e10, G, F.all ?_⟩) fun hb H10 e10 => ?_
              · have := of_decide_eq_true hb
                omega
              · have hne := of_decide_eq_false hb
                have hlt : lap < part.length := by omega
                obtain ⟨y, hy⟩ : ∃ y, part[lap]? = some y := ⟨_, List.getElem?_eq_getElem hlt⟩
                have hyp : y ∈ part := List.mem_of_getElem? hy
                refine s_forN [d, p4] (xs := nbs y) (ew_c1 (P1 := en y) (ea_cons (ev_ixL (ev_li rfl (hP'.up e10)) (ev_var rfl rfl) (atI_nat hy)) ea_nil) ⟨y, rfl, rfl⟩).n (nn2 (hm'.up e10).nn (hP'.up e10).nn) fun H11 e11 =>
                  ⟨fun j s2 H' => ∃ v6 part2 m2, s2 = [some (.ref a), some (.ref d), some (.ref p), some v, some (.ref p4), some (.int (lap : Int)), v6] ∧ Mv [d, p4] H11 H' ∧ Dc H' d m2 ∧ Ls H' p4 part2 ∧ Gr (fun y => (dget m y).isSome = true) x part2 m2 1000 ∧ (∃ t, part2 = part ++ t) ∧
                    ∀ z, z ∈ (nbs y).take j → (dget m z).isSome = true → z ∈ part2,
                  ⟨_, part, m', rfl, Mv.same, (hm'.up e10).up e11, (hP'.up e10).up e11, G, ⟨[], by simp⟩, fun z hz => by simp at hz⟩, fun j s2 H' ⟨_, _, _, _, mm, _⟩ => mm, fun j z u s2 H' hz hu ⟨v6, part2, m2, es, mv2, hm2, hP2, G2, ⟨t, ht⟩, hcl⟩ => ?_, fun s2 H' ⟨v6, part2, m2, es, mv2, hm2, hP2, G2, ⟨t, ht⟩, hcl⟩ => ?_⟩
                · subst es
                  refine s_ifN (eb_test (ev_inD (ev_var rfl hu) (ev_ds rfl hm2))) (fun hin2 H12 e12 => ?_) fun hout2 H12 e12 => ?_
                  · refine q_dpop (hm2.up e12) (ev_vr rfl) (ev_var rfl (en_up e12 hu)) hin2 fun H13 e13 H14 b14 hm3 => ?_
                    have hplen2 : part2.length ≤ cells.length := nodup_len G2.nd fun y hy => I.sub y (G2.reach y hy).dst
                    refine s_app' (x := z) ((hP2.up (e12.tr e13)).but hp4d b14) (ev_vr rfl) (ev_var rfl (Enc.mono b14.tu (en_up (e12.tr e13) hu))) (by omega) fun H15 e15 H16 b16 hP3 => ?_
                    refine ⟨_, part2 ++ [z], ddel m2 z, rfl, ((((mv2.ex e12).ex e13).but b14 (.inl List.mem_cons_self)).ex e15).but b16 (.inl (List.mem_cons_of_mem _ List.mem_cons_self)), (hm3.up e15).but hp4d.symm b16, hP3, G2.more (y := y) ?_ (List.mem_of_getElem? hz) hin2, ⟨t ++ [z], ?_⟩, fun r hr hl => ?_⟩
                    · rw [ht]
                      exact List.mem_append_left _ hyp
                    · rw [ht, List.append_assoc]
                    · rw [take_snoc hz] at hr
                      rcases List.mem_append.mp hr with h | h
                      · exact List.mem_append_left _ (hcl r h hl)
                      · exact List.mem_append_right _ h
                  · refine ⟨_, part2, m2, rfl, mv2.ex e12, hm2.up e12, hP2.up e12, G2, ⟨t, ht⟩, fun r hr hl => ?_⟩
                    rw [take_snoc hz] at hr
                    rcases List.mem_append.mp hr with h | h
                    · exact hcl r h hl
                    · rw [List.mem_singleton.mp h] at hl ⊢
                      refine Classical.byContradiction fun hn => ?_
                      rw [(G2.left z).mpr ⟨hl, hn⟩] at hout2
                      cases hout2
                · subst es
                  rw [List.take_length] at hcl
                  refine ⟨_, _, part2, m2, rfl, ((mv'.ex e10).ex e11).tr mv2, hm2, hP2, G2, Full.next (y := y) (by rw [ht]; exact F.more hle) (by rw [ht, List.getElem?_append_left hlt]; exact hy) hcl, ?_⟩
                  rw [ht, List.length_append]
                  omega
            · have hplen : part.length ≤ cells.length := nodup_len G.nd fun y hy => I.sub y (G.reach y hy).dst
              rw [Int.toNat_natCast]
              exact hplen
        · refine ⟨_, _, _, _, rfl, mv.ex e5, m, pts, hm.up e5, hpts.up e5, I, fun y hy => ?_, hml, Nat.le_succ_of_le hpl⟩
          rw [take_snoc hx] at hy
          rcases List.mem_append.mp hy with h | h
          · exact hno y h
          · rw [List.mem_singleton.mp h]
            cases hz : dget m x with
            | none => rfl
            | some b =>
              rw [hz] at hout
              cases hout
      · subst es
        rw [List.take_length] at hno
        refine s_ret (P := va (.ref p)) (ev_vr rfl) fun v H5 e5 hv => ?_
        obtain rfl : v = .ref p := hv
        have hE : Ex H H' := (hE3.tr e4).mv mv (no2 hd hp)
        refine q p H5 hp (hpts.up e5).nn (hE.tr e5) ⟨pts, I.done fun x hx => ?_, p, rfl, hpts.up e5⟩
        rw [hno x (srt_mem.mpr (dall_keys.mpr hx))]
        exact Bool.false_ne_true
end
end TB
set_option Elab.async false
set_option linter.all false
set_option maxRecDepth 100000
set_option maxHeartbeats 2000000
/-! D3: hangs, free, squares, done. -/
namespace TB
open PySem PySem.Spec PyProof.Rows L2
open Classical in
noncomputable def hangB (cs : List Cell) : Bool := if Hang cs then true else false
theorem hangB_iff {cs : List Cell} : hangB cs = true ↔ Hang cs := by
  unfold hangB
  simp
/-- all but c -/
def rest (cs : List Cell) (c : Cell) : List Cell := cs.filter fun x => !decide (x = c)
theorem mem_rest {cs : List Cell} {c x : Cell} : x ∈ rest cs c ↔ x ∈ cs ∧ x ≠ c := by
  unfold rest
  rw [List.mem_filter]
  simp
theorem rest_len {cs : List Cell} {c : Cell} : (rest cs c).length ≤ cs.length := List.length_filter_le _ _
def done (cs : List Cell) (s e : Cell) : List Cell := srt (rest cs s ++ [e])
theorem mem_done {cs : List Cell} {s e x : Cell} : x ∈ done cs s e ↔ (x ∈ cs ∧ x ≠ s) ∨ x = e := by
  unfold done
  rw [srt_mem, List.mem_append, mem_rest, List.mem_singleton]
section
variable {P : Program} {w : World} {K : PySem.W.Frag} {mg : Str → Option Value} {base : Heap}
abbrev s_law_t2_hangs : Stmt := topS 47
abbrev n_law_t2_hangs : List Str := ["_law_cells"]
theorem sc_law_t2_hangs : FnScope n_law_t2_hangs ["_law_cells"] (defScope s_law_t2_hangs) := ⟨rfl, rfl, rfl, by decide +kernel, rfl, by decide +kernel, by decide +kernel⟩
def spHangs : Sp := S1 fun P1 Pz => ∃ cells : List Cell, P1 = li cells ∧ cells.length ≤ 1000 ∧ Pz = en (hangB cells)
theorem ok_law_hangs (T : Txt K mg "_law_t2_hangs" "_law_t2_hangs" s_law_t2_hangs ["_law_cells"]) (Z : Blt mg) (C_law_t2_parts : Cal P w K mg base 2 "_law_t2_parts" ["_law_cells"] spParts) : Cal P w K mg base 3 "_law_t2_hangs" ["_law_cells"] spHangs :=
  T.cal sc_law_t2_hangs S1.len fun f cdv A outer s H vs Q E hr h => by
    obtain ⟨v, P1, Pz, rfl, ⟨cells, rfl, hlen, rfl⟩, ⟨a, rfl, ha⟩, q⟩ := h
    refine ⟨_, (pss_one (ps_ret (pe_cmpR op_eq (pe_callB call_len_seq (by rfl) Z.len (by decide +kernel) (pa_cons (pe_cal C_law_t2_parts (hr.mono (by decide)) (pa_cons (pv 0) pa_nil)) pa_nil)) pe_int (nomark _)))), ?_⟩
    refine s_ret (P := en (hangB cells)) ?_ fun v H1 e h => q v H1 e h
    intro H1 e Q' q'
    refine ew_c1 (P1 := li cells) (ea_cons (ev_li rfl ha) ea_nil) ⟨cells, rfl, hlen, rfl⟩ H1 e _ fun p H2 _ _ e2 hp => ?_
    obtain ⟨pts, hpt, p', ep, us, h1, h2⟩ := hp
    cases ep
    refine ⟨p, us, rfl, .inl (.inl (.inl h1)), rfl, q' _ H2 e2 ?_⟩
    show V.bl _ = V.bl _
    rw [dec_V_int, h2.length]
    congr 1
    cases hb : hangB cells with
    | true =>
      refine decide_eq_true ?_
      have := hpt.mpr (hangB_iff.mp hb)
      omega
    | false =>
      refine decide_eq_false fun z => ?_
      have := hangB_iff.mpr (hpt.mp (by omega))
      rw [hb] at this
      cases this
abbrev s_law_t2_free : Stmt := topS 48
abbrev n_law_t2_free : List Str := ["_law_body", "_law_cell", "_law_one"]
theorem sc_law_t2_free : FnScope n_law_t2_free ["_law_body", "_law_cell"] (defScope s_law_t2_free) := ⟨rfl, rfl, rfl, by decide +kernel, rfl, by decide +kernel, by decide +kernel⟩
def spFree : Sp := S2 fun P1 P2 Pz => ∃ (body : List Cell) (c : Cell), P1 = en body ∧ P2 = en c ∧ body.length ≤ 1000 ∧ Pz = en (hangB (rest body c))
theorem ok_law_free (T : Txt K mg "_law_t2_free" "_law_t2_free" s_law_t2_free ["_law_body", "_law_cell"]) (Z : Blt mg) (C_law_t2_hangs : Cal P w K mg base 3 "_law_t2_hangs" ["_law_cells"] spHangs) : Cal P w K mg base 4 "_law_t2_free" ["_law_body", "_law_cell"] spFree :=
  T.cal sc_law_t2_free S2.len fun f cdv A outer s H vs Q E hr h => by
    obtain ⟨v1, v2, P1, P2, Pz, rfl, ⟨body, c, rfl, rfl, hlen, rfl⟩, h1, h2, q⟩ := h
    refine ⟨_, (pss_one (ps_ret (pe_cal C_law_t2_hangs (hr.mono (by decide)) (pa_cons (pe_lc (own := [("_law_one", 2)]) (g := gName 2) rfl sc_law_t2_free.nd (pi_tup (pv 0)) (blkOk_by (N := n_law_t2_free) (sc := defScope s_law_t2_free) (by decide +kernel)) (fun _ _ _ _ _ => (pg_name (i := 2) sc_law_t2_free.nd rfl (Or.inl rfl))) (fun _ _ _ _ _ => (pts_one (pt_cmpR (op_neD (ru64 hr) : OpR _ _ (rNeD K)) (pv 2) (pv 1) (nomark _)))) (fun _ _ _ _ _ => (pv 2))) pa_nil)))), ?_⟩
    refine s_ret (ev_c1 (P1 := li (rest body c)) (ea_cons ?_ ea_nil) ⟨_, rfl, Nat.le_trans rest_len hlen, rfl⟩) fun v H1 e h => q v H1 e h
    exact ((en_lcT (f := fun x => x) (p := fun x => !decide (x = c)) (ev_var rfl h1) (by omega) fun x u H' hx e hu => ⟨eb_test (ev_neE (ev_var rfl hu) (ev_var rfl (en_up e h2))), fun _ => ev_var rfl hu⟩).is (List.map_id' _)).li
abbrev s_law_t2_squares : Stmt := topS 46
abbrev n_law_t2_squares : List Str := ["_law_body", "_law_found", "_law_cell"]
theorem sc_law_t2_squares : FnScope n_law_t2_squares ["_law_body"] (defScope s_law_t2_squares) := ⟨rfl, rfl, rfl, by decide +kernel, rfl, by decide +kernel, by decide +kernel⟩
def spSquares : Sp := S1W fun P1 Pz => ∃ body : List Cell, (P1 = en body ∨ P1 = li body) ∧ body.length ≤ 1000 ∧ Pz = ds (dall body)
theorem ok_law_squares (T : Txt K mg "_law_t2_squares" "_law_t2_squares" s_law_t2_squares ["_law_body"]) (Z : Blt mg) : Cal P w K mg base 1 "_law_t2_squares" ["_law_body"] spSquares :=
  T.cal sc_law_t2_squares S1W.len fun f cdv A outer s H vs Q E hr h => by
    obtain ⟨v, P1, Pz, rfl, ⟨body, hP, hlen, rfl⟩, hv, q⟩ := h
    rcases hP with rfl | rfl
    · refine ⟨_, (pss_cons (ps_set (i := 1) sc_law_t2_squares.nd rfl (Or.inl rfl) pe_dnewT)
      (pss_cons (ps_for PassesOwn.never rfl (pi_tup (pv 0)) (pg_name (i := 2) sc_law_t2_squares.nd rfl (Or.inl rfl)) (pss_one (ps_dput (ru1 hr) (pv 1) (pv 2) pe_bl rfl)))
      (pss_one (ps_ret (pv 1))))), ?_⟩
      refine q_asgW (ew_dict (β := Bool)) fun d H1 hd e1 hD => ?_
      replace hD := ds_at hD
      refine q_forT (ev_var rfl (en_up e1 hv)) fun H2 e2 => ⟨fun i s' H' => ∃ v2, s' = [some v, some (.ref d), v2] ∧ Mv [d] H2 H' ∧ Dc H' d (dall (body.take i)), ⟨_, rfl, Mv.same, hD.up e2⟩, fun i s' H' ⟨_, _, m, _⟩ => m.tu, fun i x u s' H' hx hu ⟨v3, es, m, hDi⟩ => ?_, fun s' H3 ⟨v3, es, m3, hD3⟩ => ?_⟩
      · subst es
        refine s_dput' hDi (ev_bl (b := true)) (ev_vr rfl) (ev_var rfl hu) (by
          have h1 := dall_len (body.take i)
          have h2 := List.length_take_le' i body
          omega) fun H3 e3 H4 b hD' => ⟨_, rfl, (m.ex e3).but b (.inl List.mem_cons_self), by
            rw [take_snoc hx, dall_snoc]
            exact hD'⟩
      · subst es
        rw [List.take_length] at hD3
        refine s_ret (P := va (.ref d)) (ev_vr rfl) fun v H5 e5 hv => ?_
        obtain rfl : v = .ref d := hv
        exact q d H5 hd (hD3.up e5).nn (((e1.tr e2).mv m3 (no1 hd)).tr e5) ⟨d, rfl, hD3.up e5⟩
    · obtain ⟨a, rfl, ha⟩ := hv
      refine ⟨_, (pss_cons (ps_set (i := 1) sc_law_t2_squares.nd rfl (Or.inl rfl) pe_dnewT)
      (pss_cons (ps_for PassesOwn.never rfl (pi_list (pv 0)) (pg_name (i := 2) sc_law_t2_squares.nd rfl (Or.inl rfl)) (pss_one (ps_dput (ru1 hr) (pv 1) (pv 2) pe_bl rfl)))
      (pss_one (ps_ret (pv 1))))), ?_⟩
      refine q_asgW (ew_dict (β := Bool)) fun d H1 hd e1 hD => ?_
      replace hD := ds_at hD
      refine q_forA [d] (ha.up e1) (ev_vr rfl) (mem1 (ha.ne_new hd)) fun H2 e2 => ⟨fun i s' H' => ∃ v2, s' = [some (.ref a), some (.ref d), v2] ∧ Mv [d] H2 H' ∧ Dc H' d (dall (body.take i)), ⟨_, rfl, Mv.same, hD.up e2⟩, fun i s' H' ⟨_, _, m, _⟩ => m, fun i x u s' H' hx hu ⟨v3, es, m, hDi⟩ => ?_, fun s' H3 ⟨v3, es, m3, hD3⟩ => ?_⟩
      · subst es
        refine s_dput' hDi (ev_bl (b := true)) (ev_vr rfl) (ev_var rfl hu) (by
          have h1 := dall_len (body.take i)
          have h2 := List.length_take_le' i body
          omega) fun H3 e3 H4 b hD' => ⟨_, rfl, (m.ex e3).but b (.inl List.mem_cons_self), by
            rw [take_snoc hx, dall_snoc]
            exact hD'⟩
      · subst es
        rw [List.take_length] at hD3
        refine s_ret (P := va (.ref d)) (ev_vr rfl) fun v H5 e5 hv => ?_
        obtain rfl : v = .ref d := hv
        exact q d H5 hd (hD3.up e5).nn (((e1.tr e2).mv m3 (no1 hd)).tr e5) ⟨d, rfl, hD3.up e5⟩
abbrev s_law_t2_done : Stmt := topS 53
abbrev n_law_t2_done : List Str := ["_law_body", "_law_start", "_law_end", "_law_cell"]
theorem sc_law_t2_done : FnScope n_law_t2_done ["_law_body", "_law_start", "_law_end"] (defScope s_law_t2_done) := ⟨rfl, rfl, rfl, by decide +kernel, rfl, by decide +kernel, by decide +kernel⟩
def spDone : Sp := S3 fun P1 P2 P3 Pz => ∃ (body : List Cell) (c d : Cell), P1 = en body ∧ P2 = en c ∧ P3 = en d ∧ body.length ≤ 1000 ∧ Pz = en (done body c d)
theorem ok_law_done (T : Txt K mg "_law_t2_done" "_law_t2_done" s_law_t2_done ["_law_body", "_law_start", "_law_end"]) (Z : Blt mg) : Cal P w K mg base 1 "_law_t2_done" ["_law_body", "_law_start", "_law_end"] spDone :=
  T.cal sc_law_t2_done S3.len fun f cdv A outer s H vs Q E hr h => by
    obtain ⟨v1, v2, v3, P1, P2, P3, Pz, rfl, ⟨body, c, d, rfl, rfl, rfl, hlen, rfl⟩, h1, h2, h3, q⟩ := h
    refine ⟨_, (pss_one (ps_ret (pe_callTy call_tuple_of (by rfl) Z.tuple (by decide +kernel) (pa_cons (pe_callB (cr_sortE (a := Cell) (by decide) (ru64 hr)) (by rfl) Z.sorted (by decide +kernel) (pa_cons (pe_op op_cat (pe_lc (own := [("_law_cell", 3)]) (g := gName 3) rfl sc_law_t2_done.nd (pi_tup (pv 0)) (blkOk_by (N := n_law_t2_done) (sc := defScope s_law_t2_done) (by decide +kernel)) (fun _ _ _ _ _ => (pg_name (i := 3) sc_law_t2_done.nd rfl (Or.inl rfl))) (fun _ _ _ _ _ => (pts_one (pt_cmpR (op_neD (ru64 hr) : OpR _ _ (rNeD K)) (pv 3) (pv 1) (nomark _)))) (fun _ _ _ _ _ => (pv 3))) (pe_lst (pa_cons (pv 2) pa_nil))) pa_nil)) pa_nil)))), ?_⟩
    refine s_ret (ev_tupleL rfl (en_sort (en_cat (xs := rest body c) (ys := [d]) ?_ (en_lst (xs := [d]) (ea_cons (ev_var rfl h3) ea_nil)).li ?_).li (.inl fun x _ => ⟨_, _, rfl⟩)).li) fun v H1 e h => q v H1 e h
    · exact ((en_lcT (f := fun x => x) (p := fun x => !decide (x = c)) (ev_var rfl h1) (by omega) fun x u H' hx e hu => ⟨eb_test (ev_neE (ev_var rfl hu) (ev_var rfl (en_up e h2))), fun _ => ev_var rfl hu⟩).is (List.map_id' _)).li
    · have := rest_len (cs := body) (c := c)
      show (rest body c).length + 1 ≤ 1000000
      omega
end
end TB
set_option Elab.async false
set_option linter.all false
set_option maxRecDepth 100000
set_option maxHeartbeats 2000000
/-! D4: supports, kind. -/
namespace TB
open PySem PySem.Spec PyProof.Rows L2
def ab (i : Int) : Int := if i < 0 then -i else i
def mx (i j : Int) : Int := if j > i then j else i
/-- what may hold a square that goes from s to e, q telling which squares are full -/
def supp (q : Cell → Bool) (s e : Cell) : List (List Cell) :=
  if (!q s || (q e || !decide (mx (ab (e.1 - s.1)) (ab (e.2 - s.2)) = 1))) = true then []
  else if (!decide (e.1 - s.1 = 0) && !decide (e.2 - s.2 = 0)) = true then (if (!decide (q (e.1, s.2) = q (s.1, e.2))) = true then [if q (e.1, s.2) = true then [(e.1, s.2)] else [(s.1, e.2)]] else [])
  else srt (([1, -1].filter fun g : Int => q (s.1 + g * (e.2 - s.2), s.2 + g * (e.1 - s.1)) && q (e.1 + g * (e.2 - s.2), e.2 + g * (e.1 - s.1))).map fun g => srt [(s.1 + g * (e.2 - s.2), s.2 + g * (e.1 - s.1)), (e.1 + g * (e.2 - s.2), e.2 + g * (e.1 - s.1))])
section
variable {s : TSt} {H : Hp} {ta tb : TE}
theorem ev_abs {i : Int} {r : List V → Hp → VK → Prop} (hr : r = fun xs H Q => ∃ i, xs = [V.int i] ∧ Q (.int (if i < 0 then -i else i)) H) (ha : EvP ta s H (en i)) : EvP (tCB r (tCons ta tNil)) s H (en (ab i)) := fun H1 e Q q =>
  ha H1 e _ fun v H2 e2 hv => by
    obtain rfl : v = .int i := hv
    subst hr
    exact ⟨i, rfl, q _ H2 e2 rfl⟩
theorem ev_max2 {i j : Int} {r : List V → Hp → VK → Prop} (hr : r = fun xs H Q => ∃ i j, xs = [V.int i, V.int j] ∧ Q (.int (if j > i then j else i)) H) (ha : EvP ta s H (en i)) (hb : EvP tb s H (en j)) : EvP (tCB r (tCons ta (tCons tb tNil))) s H (en (mx i j)) := fun H1 e Q q =>
  ha H1 e _ fun v H2 e2 hv => hb H2 (e.tr e2) _ fun w H3 e3 hw => by
    obtain rfl : v = .int i := hv
    obtain rfl : w = .int j := hw
    subst hr
    exact ⟨i, j, rfl, q _ H3 (e2.tr e3) rfl⟩
end
/-- fullness as a list of squares tells it -/
def isIn (cs : List Cell) (c : Cell) : Bool := decide (c ∈ cs)
theorem dall_in (cs : List Cell) : (fun c => (dget (dall cs) c).isSome) = isIn cs := by
  funext c
  unfold isIn
  by_cases h : c ∈ cs
  · rw [decide_eq_true h]
    exact dall_mem.mpr h
  · rw [decide_eq_false h]
    cases hz : (dget (dall cs) c).isSome with
    | false => rfl
    | true => exact absurd (dall_mem.mp hz) h
section
variable {P : Program} {w : World} {K : PySem.W.Frag} {mg : Str → Option Value} {base : Heap}
abbrev s_law_t2_supports : Stmt := topS 49
abbrev n_law_t2_supports : List Str := ["_law_squares", "_law_start", "_law_end", "_law_across", "_law_up", "_law_found", "_law_one", "_law_two", "_law_sign"]
theorem sc_law_t2_supports : FnScope n_law_t2_supports ["_law_squares", "_law_start", "_law_end"] (defScope s_law_t2_supports) := ⟨rfl, rfl, rfl, by decide +kernel, rfl, by decide +kernel, by decide +kernel⟩
def spSupports : Sp := S3W fun P1 P2 P3 Pz => ∃ (m : List (Cell × Bool)) (s e : Cell), P1 = ds m ∧ P2 = en s ∧ P3 = en e ∧ Pz = li (supp (fun c => (dget m c).isSome) s e)
theorem ok_law_supports (T : Txt K mg "_law_t2_supports" "_law_t2_supports" s_law_t2_supports ["_law_squares", "_law_start", "_law_end"]) (Z : Blt mg) : Cal P w K mg base 1 "_law_t2_supports" ["_law_squares", "_law_start", "_law_end"] spSupports :=
  T.cal sc_law_t2_supports S3W.len fun f cdv A outer s H vs Q E hr h => by
    obtain ⟨v1, v2, v3, P1, P2, P3, Pz, rfl, ⟨m, c, d, rfl, rfl, rfl, rfl⟩, h1, h2, h3, q⟩ := h
    refine ⟨_, (pss_cons (ps_par (i := 3) (j := 4) rfl sc_law_t2_supports.nd rfl rfl (by decide) rfl rfl (pa_cons (pe_op op_sub (pe_ix ix_tup (pv 2) pe_int (fun _ _ => rfl)) (pe_ix ix_tup (pv 1) pe_int (fun _ _ => rfl))) (pa_cons (pe_op op_sub (pe_ix ix_tup (pv 2) pe_int (fun _ _ => rfl)) (pe_ix ix_tup (pv 1) pe_int (fun _ _ => rfl))) pa_nil)) (by rfl))
      (pss_cons (ps_if (PW.pt (pw_or (pt_cmp ((pc_dnotin (ru1 hr)) (pv 1) (pv 0))) (pw_or (pt_cmp ((pc_din (ru1 hr)) (pv 2) (pv 0))) (pw_or1 (pt_cmpR op_ne (pe_callB (call_max2 rfl) (by rfl) Z.max (by decide +kernel) (pa_cons (pe_callB call_abs (by rfl) Z.abs (by decide +kernel) (pa_cons (pv 3) pa_nil)) (pa_cons (pe_callB call_abs (by rfl) Z.abs (by decide +kernel) (pa_cons (pv 4) pa_nil)) pa_nil))) pe_int (nomark _)))))) (pss_one (ps_ret (pe_lst pa_nil))) pss_nil)
      (pss_cons (ps_set (i := 5) sc_law_t2_supports.nd rfl (Or.inl rfl) (pe_lst pa_nil))
      (pss_cons (ps_if (PW.pt (pw_and (pt_cmpR op_ne (pv 3) pe_int (nomark _)) (pw_and1 (pt_cmpR op_ne (pv 4) pe_int (nomark _))))) (pss_cons (ps_par (i := 6) (j := 7) rfl sc_law_t2_supports.nd rfl rfl (by decide) rfl rfl (pa_cons (pe_tup (pa_cons (pe_ix ix_tup (pv 2) pe_int (fun _ _ => rfl)) (pa_cons (pe_ix ix_tup (pv 1) pe_int (fun _ _ => rfl)) pa_nil))) (pa_cons (pe_tup (pa_cons (pe_ix ix_tup (pv 1) pe_int (fun _ _ => rfl)) (pa_cons (pe_ix ix_tup (pv 2) pe_int (fun _ _ => rfl)) pa_nil))) pa_nil)) (by rfl))
      (pss_cons (ps_if (pt_cmpR op_ne (pe_cmp ((pc_din (ru1 hr)) (pv 6) (pv 0)) rfl) (pe_cmp ((pc_din (ru1 hr)) (pv 7) (pv 0)) rfl) (nomark _)) (pss_one (ps_expr (pe_bm PySem.F.plainAttrs_list PySem.F.slot_list_append PySem.F.type_list_append mt_append (pv 5) (pa_cons (pe_ifExp (pt_cmp ((pc_din (ru1 hr)) (pv 6) (pv 0))) (pe_tup (pa_cons (pv 6) pa_nil)) (pe_tup (pa_cons (pv 7) pa_nil))) pa_nil)))) pss_nil)
      (pss_one (ps_ret (pv 5))))) pss_nil)
      (pss_cons (ps_for PassesOwn.never rfl (pi_list (pe_lst (pa_cons pe_int (pa_cons (pe_un un_neg pe_int) pa_nil)))) (pg_name (i := 8) sc_law_t2_supports.nd rfl (Or.inl rfl)) (pss_cons (ps_par (i := 6) (j := 7) rfl sc_law_t2_supports.nd rfl rfl (by decide) rfl rfl (pa_cons (pe_tup (pa_cons (pe_op op_add (pe_ix ix_tup (pv 1) pe_int (fun _ _ => rfl)) (pe_op op_mul (pv 8) (pv 4))) (pa_cons (pe_op op_add (pe_ix ix_tup (pv 1) pe_int (fun _ _ => rfl)) (pe_op op_mul (pv 8) (pv 3))) pa_nil))) (pa_cons (pe_tup (pa_cons (pe_op op_add (pe_ix ix_tup (pv 2) pe_int (fun _ _ => rfl)) (pe_op op_mul (pv 8) (pv 4))) (pa_cons (pe_op op_add (pe_ix ix_tup (pv 2) pe_int (fun _ _ => rfl)) (pe_op op_mul (pv 8) (pv 3))) pa_nil))) pa_nil)) (by rfl))
      (pss_one (ps_if (PW.pt (pw_and (pt_cmp ((pc_din (ru1 hr)) (pv 6) (pv 0))) (pw_and1 (pt_cmp ((pc_din (ru1 hr)) (pv 7) (pv 0)))))) (pss_one (ps_expr (pe_bm PySem.F.plainAttrs_list PySem.F.slot_list_append PySem.F.type_list_append mt_append (pv 5) (pa_cons (pe_callTy call_tuple_of (by rfl) Z.tuple (by decide +kernel) (pa_cons (pe_callB (cr_sortE (a := Cell) (by decide) (ru64 hr)) (by rfl) Z.sorted (by decide +kernel) (pa_cons (pe_lst (pa_cons (pv 6) (pa_cons (pv 7) pa_nil))) pa_nil)) pa_nil)) pa_nil)))) pss_nil))))
      (pss_one (ps_ret (pe_callB (cr_sortE (a := List Cell) (by decide) (ru64 hr)) (by rfl) Z.sorted (by decide +kernel) (pa_cons (pv 5) pa_nil))))))))), ?_⟩
    have hc : ∀ {s : TSt} {H1}, s[1]? = some (some v2) → Ex H H1 → EvP (tVar 1) s H1 (en c) := fun hs e => ev_var hs (en_up e h2)
    have hd : ∀ {s : TSt} {H1}, s[2]? = some (some v3) → Ex H H1 → EvP (tVar 2) s H1 (en d) := fun hs e => ev_var hs (en_up e h3)
    have hm : ∀ {s : TSt} {H1}, s[0]? = some (some v1) → Ex H H1 → EvP (tVar 0) s H1 (ds m) := fun hs e => ev_var hs ((ds m).up e h1)
    refine q_par (P1 := en (d.1 - c.1)) (P2 := en (d.2 - c.2)) (ea_cons (ev_I (ev_fst (hd rfl Ex.same)) (ev_fst (hc rfl Ex.same))) (ea_cons (ev_I (ev_snd (hd rfl Ex.same)) (ev_snd (hc rfl Ex.same))) ea_nil)) fun u1 u2 H1 e1 g1 g2 => ?_
    refine q_ifN (b := !(dget m c).isSome || ((dget m d).isSome || !decide (mx (ab (d.1 - c.1)) (ab (d.2 - c.2)) = 1))) (eb_or (eb_test (ev_niD (hc rfl e1) (hm rfl e1))) fun _ => eb_or (eb_test (ev_inD (hd rfl e1) (hm rfl e1))) fun _ => eb_test (ev_neI ?_ ev_int)) (fun hb H2 e2 => ?_) fun hb H2 e2 => ?_
    · exact ev_max2 rfl (ev_abs rfl (ev_var rfl (en_up Ex.same g1))) (ev_abs rfl (ev_var rfl (en_up Ex.same g2)))
    · refine s_retN (en_nil (α := List Cell)) fun p H3 n3 e3 hp => q p H3 ((e1.tr e2).back n3) hp.nn ((e1.tr e2).tr e3) ⟨p, rfl, ?_⟩
      unfold supp
      rw [if_pos hb]
      exact hp
    · refine q_asgN (en_nil (α := List Cell)) fun p H3 n3 e3 hp => ?_
      have e13 := (e1.tr e2).tr e3
      have nH : H p = none := (e1.tr e2).back n3
      refine q_ifN (b := !decide (d.1 - c.1 = 0) && !decide (d.2 - c.2 = 0)) (eb_and (eb_test (ev_neI (ev_var rfl (en_up (e2.tr e3) g1)) ev_int)) fun _ => eb_test (ev_neI (ev_var rfl (en_up (e2.tr e3) g2)) ev_int)) (fun hb2 H4 e4 => ?_) fun hb2 H4 e4 => ?_
      · have e14 := e13.tr e4
        refine q_par (P1 := en (d.1, c.2)) (P2 := en (c.1, d.2)) (ea_cons (ev_pair (ev_fst (hd rfl e14)) (ev_snd (hc rfl e14))) (ea_cons (ev_pair (ev_fst (hc rfl e14)) (ev_snd (hd rfl e14))) ea_nil)) fun w1 w2 H5 e5 k1 k2 => ?_
        have e15 := e14.tr e5
        refine q_ifN (b := !decide ((dget m (d.1, c.2)).isSome = (dget m (c.1, d.2)).isSome)) (eb_test (ev_neB (ev_inD (ev_var rfl k1) (hm rfl e15)) (ev_inD (ev_var rfl k2) (hm rfl e15)))) (fun hb3 H6 e6 => ?_) fun hb3 H6 e6 => ?_
        · refine s_app' (x := if (dget m (d.1, c.2)).isSome = true then [(d.1, c.2)] else [(c.1, d.2)]) (hp.up ((e4.tr e5).tr e6)) (ev_vr rfl) (ev_if (eb_test (ev_inD (ev_var rfl (en_up e6 k1)) (hm rfl (e15.tr e6)))) (fun hb => ?_) fun hb => ?_) (by decide) fun H7 e7 H8 b8 hp8 => ?_
          · rw [if_pos hb]
            exact ev_tup (xs := [(d.1, c.2)]) (ea_cons (ev_var rfl (en_up e6 k1)) ea_nil)
          · rw [if_neg (by rw [hb]; exact Bool.false_ne_true)]
            exact ev_tup (xs := [(c.1, d.2)]) (ea_cons (ev_var rfl (en_up e6 k2)) ea_nil)
          · refine s_ret (P := va (.ref p)) (ev_vr rfl) fun v H9 e9 hv => ?_
            obtain rfl : v = .ref p := hv
            refine q p H9 nH (hp8.up e9).nn ((((e15.tr e6).tr e7).but nH b8).tr e9) ⟨p, rfl, ?_⟩
            unfold supp
            rw [if_neg (by rw [hb]; exact Bool.false_ne_true), if_pos hb2, if_pos hb3]
            exact hp8.up e9
        · refine s_ret (P := va (.ref p)) (ev_vr rfl) fun v H9 e9 hv => ?_
          obtain rfl : v = .ref p := hv
          have hp9 := hp.up (((e4.tr e5).tr e6).tr e9)
          refine q p H9 nH hp9.nn ((e15.tr e6).tr e9) ⟨p, rfl, ?_⟩
          unfold supp
          rw [if_neg (by rw [hb]; exact Bool.false_ne_true), if_pos hb2, if_neg (by rw [hb3]; exact Bool.false_ne_true)]
          exact hp9
      · have e14 := e13.tr e4
        refine q_forN [p] (xs := [1, -1]) (en_lst (xs := [1, -1]) (ea_cons ev_int (ea_cons (ev_neg (i := 1) ev_int) ea_nil))) (nn1 (hp.up e4).nn) fun H5 e5 => ⟨fun i s' H' => ∃ u6 u7 u8, s' = [some v1, some v2, some v3, some u1, some u2, some (.ref p), u6, u7, u8] ∧ Mv [p] H5 H' ∧
          Ls H' p ((([1, -1].take i).filter fun g : Int => (dget m (c.1 + g * (d.2 - c.2), c.2 + g * (d.1 - c.1))).isSome && (dget m (d.1 + g * (d.2 - c.2), d.2 + g * (d.1 - c.1))).isSome).map fun g => srt [(c.1 + g * (d.2 - c.2), c.2 + g * (d.1 - c.1)), (d.1 + g * (d.2 - c.2), d.2 + g * (d.1 - c.1))]),
          ⟨_, _, _, rfl, Mv.same, (hp.up e4).up e5⟩, fun i s' H' ⟨_, _, _, _, mm, _⟩ => mm, fun i g u s' H' hg hu ⟨u6, u7, u8, es, mm, hpi⟩ => ?_, fun s' H' ⟨u6, u7, u8, es, mm, hpi⟩ => ?_⟩
        · subst es
          have e1' : Ex H H' := (e14.tr e5).mv mm (no1 nH)
          have hmul : ∀ {j : Int}, CMul g j := by
            intro j
            have := List.mem_of_getElem? hg
            simp only [List.mem_cons, List.not_mem_nil, or_false] at this
            refine .inl ?_
            omega
          have g1' : En H' u1 (d.1 - c.1) := en_mv (en_up (((e2.tr e3).tr e4).tr e5) g1) mm
          have g2' : En H' u2 (d.2 - c.2) := en_mv (en_up (((e2.tr e3).tr e4).tr e5) g2) mm
          refine q_par (P1 := en (c.1 + g * (d.2 - c.2), c.2 + g * (d.1 - c.1))) (P2 := en (d.1 + g * (d.2 - c.2), d.2 + g * (d.1 - c.1)))
            (ea_cons (ev_pair (ev_I (ev_fst (hc rfl e1')) (ev_Ic (ev_var rfl hu) (ev_var rfl g2') hmul)) (ev_I (ev_snd (hc rfl e1')) (ev_Ic (ev_var rfl hu) (ev_var rfl g1') hmul)))
            (ea_cons (ev_pair (ev_I (ev_fst (hd rfl e1')) (ev_Ic (ev_var rfl hu) (ev_var rfl g2') hmul)) (ev_I (ev_snd (hd rfl e1')) (ev_Ic (ev_var rfl hu) (ev_var rfl g1') hmul))) ea_nil)) fun w1 w2 H6 e6 k1 k2 => ?_
          have e16 := e1'.tr e6
          refine s_ifN (eb_and (eb_test (ev_inD (ev_var rfl k1) (hm rfl e16))) fun _ => eb_test (ev_inD (ev_var rfl k2) (hm rfl e16))) (fun hb3 H7 e7 => ?_) fun hb3 H7 e7 => ?_
          · refine s_app' (x := srt [(c.1 + g * (d.2 - c.2), c.2 + g * (d.1 - c.1)), (d.1 + g * (d.2 - c.2), d.2 + g * (d.1 - c.1))]) (hpi.up (e6.tr e7)) (ev_vr rfl)
              (ev_tupleL rfl (en_sort (en_lst (xs := [(c.1 + g * (d.2 - c.2), c.2 + g * (d.1 - c.1)), (d.1 + g * (d.2 - c.2), d.2 + g * (d.1 - c.1))]) (ea_cons (ev_var rfl (en_up e7 k1)) (ea_cons (ev_var rfl (en_up e7 k2)) ea_nil))).li (.inl fun x _ => ⟨_, _, rfl⟩)).li) (by
                rw [List.length_map]
                have h1 := List.length_filter_le (fun g : Int => (dget m (c.1 + g * (d.2 - c.2), c.2 + g * (d.1 - c.1))).isSome && (dget m (d.1 + g * (d.2 - c.2), d.2 + g * (d.1 - c.1))).isSome) ([1, -1].take i)
                have h2 := List.length_take_le' i [(1 : Int), -1]
                simp only [List.length_cons, List.length_nil] at h2
                omega) fun H8 e8 H9 b9 hp9 => ⟨_, _, _, rfl, (((mm.ex e6).ex e7).ex e8).but b9 (.inl List.mem_cons_self), ?_⟩
            rw [take_snoc hg, List.filter_append, List.map_append]
            rw [List.filter_cons, if_pos hb3]
            exact hp9
          · refine ⟨_, _, _, rfl, (mm.ex e6).ex e7, ?_⟩
            rw [take_snoc hg, List.filter_append, List.map_append]
            rw [List.filter_cons, if_neg (by rw [hb3]; exact Bool.false_ne_true), List.filter_nil, List.map_nil, List.append_nil]
            exact hpi.up (e6.tr e7)
        · subst es
          refine s_retN (en_sort (ev_li rfl hpi) (.inl fun x hx => ?_)) fun p' H6 n6 e6 hp' => ?_
          · obtain ⟨g, _, rfl⟩ := List.mem_map.mp hx
            generalize hz : srt [(c.1 + g * (d.2 - c.2), c.2 + g * (d.1 - c.1)), (d.1 + g * (d.2 - c.2), d.2 + g * (d.1 - c.1))] = z
            cases z with
            | nil =>
              have := congrArg List.length hz
              rw [srt_len] at this
              cases this
            | cons y r => exact ⟨_, _, rfl⟩
          · refine q p' H6 (((e14.tr e5).mv mm (no1 nH)).back n6) hp'.nn (((e14.tr e5).mv mm (no1 nH)).tr e6) ⟨p', rfl, ?_⟩
            unfold supp
            rw [if_neg (by rw [hb]; exact Bool.false_ne_true), if_neg (by rw [hb2]; exact Bool.false_ne_true)]
            rw [List.take_length] at hp'
            exact hp'
end
end TB
set_option Elab.async false
set_option linter.all false
set_option maxRecDepth 100000
set_option maxHeartbeats 2000000
/-! D5: kind, around, moves, first_wrong. -/
namespace TB
open PySem PySem.Spec PyProof.Rows L2
/-- a square may go from s to e -/
noncomputable def okMove (b : List Cell) (s e : Cell) : Bool := !(decide (supp (isIn b) s e = []) || !hangB (rest b s))
theorem okMove_iff {b : List Cell} {s e : Cell} : okMove b s e = true ↔ supp (isIn b) s e ≠ [] ∧ Hang (rest b s) := by
  unfold okMove
  rw [← hangB_iff]
  cases hangB (rest b s) <;> simp
theorem supp_in {q : Cell → Bool} {s e : Cell} (h : supp q s e ≠ []) : q s = true ∧ q e = false := by
  unfold supp at h
  cases h1 : q s <;> cases h2 : q e <;> simp [h1, h2] at h ⊢
theorem okMove_in {b : List Cell} {s e : Cell} (h : okMove b s e = true) : s ∈ b ∧ e ∉ b := by
  obtain ⟨h1, h2⟩ := supp_in (okMove_iff.mp h).1
  unfold isIn at h1 h2
  exact ⟨of_decide_eq_true h1, of_decide_eq_false h2⟩
theorem filter_lt {α : Type} {p : α → Bool} {x : α} (hx : p x = false) : ∀ {xs : List α}, x ∈ xs → (xs.filter p).length < xs.length
  | y :: r, h => by
    rw [List.filter_cons]
    by_cases e : p y = true
    · rw [if_pos e]
      have : x ∈ r := by
        rcases List.mem_cons.mp h with z | z
        · rw [z, e] at hx
          cases hx
        · exact z
      have := filter_lt hx this
      simp only [List.length_cons]
      omega
    · rw [if_neg e]
      have := List.length_filter_le p r
      simp only [List.length_cons]
      omega
theorem done_len {b : List Cell} {s e : Cell} (h : s ∈ b) : (done b s e).length ≤ b.length := by
  unfold done
  rw [srt_len, List.length_append]
  have : (rest b s).length < b.length := filter_lt (x := s) (by simp) h
  simp only [List.length_cons, List.length_nil]
  omega
/-- the bodies on the way -/
noncomputable def endB (b : List Cell) (pl : List (Cell × Cell)) : List Cell := pl.foldl (fun b m => done b m.1 m.2) b
noncomputable def bods (b : List Cell) : List (Cell × Cell) → List (List Cell)
  | [] => [b]
  | m :: r => b :: bods (done b m.1 m.2) r
noncomputable def okPlan (b : List Cell) : List (Cell × Cell) → Bool
  | [] => true
  | m :: r => okMove b m.1 m.2 && okPlan (done b m.1 m.2) r
theorem endB_snoc (b : List Cell) (pl : List (Cell × Cell)) (m : Cell × Cell) : endB b (pl ++ [m]) = done (endB b pl) m.1 m.2 := by simp [endB, List.foldl_append]
theorem bods_snoc (b : List Cell) (pl : List (Cell × Cell)) (m : Cell × Cell) : bods b (pl ++ [m]) = bods b pl ++ [endB b (pl ++ [m])] := by
  induction pl generalizing b with
  | nil => rfl
  | cons x r ih =>
    show b :: bods (done b x.1 x.2) (r ++ [m]) = b :: (bods (done b x.1 x.2) r ++ [_])
    rw [ih]
    rfl
theorem okPlan_snoc (b : List Cell) (pl : List (Cell × Cell)) (m : Cell × Cell) : okPlan b (pl ++ [m]) = (okPlan b pl && okMove (endB b pl) m.1 m.2) := by
  induction pl generalizing b with
  | nil => simp [okPlan, endB]
  | cons x r ih =>
    show (okMove b x.1 x.2 && okPlan (done b x.1 x.2) (r ++ [m])) = ((okMove b x.1 x.2 && okPlan (done b x.1 x.2) r) && okMove (endB (done b x.1 x.2) r) m.1 m.2)
    rw [ih, Bool.and_assoc]
theorem bods_last (b : List Cell) (pl : List (Cell × Cell)) : ∃ l, bods b pl = l ++ [endB b pl] := by
  induction pl using snocInd with
  | h0 => exact ⟨[], rfl⟩
  | h1 r x ih => exact ⟨_, bods_snoc b r x⟩
theorem bods_at (b : List Cell) (pl : List (Cell × Cell)) : atI (bods b pl) (-1) = some (endB b pl) := by
  obtain ⟨l, e⟩ := bods_last b pl
  rw [e]
  exact atI_last _ _
theorem bods_len (b : List Cell) (pl : List (Cell × Cell)) : (bods b pl).length = pl.length + 1 := by
  induction pl generalizing b with
  | nil => rfl
  | cons x r ih =>
    show (bods _ r).length + 1 = r.length + 1 + 1
    rw [ih]
theorem endB_len {b : List Cell} {pl : List (Cell × Cell)} (h : okPlan b pl = true) : (endB b pl).length ≤ b.length := by
  induction pl using snocInd with
  | h0 => exact Nat.le_refl _
  | h1 r x ih =>
    rw [okPlan_snoc, Bool.and_eq_true] at h
    rw [endB_snoc]
    exact Nat.le_trans (done_len (okMove_in h.2).1) (ih h.1)
/-- the eight squares around -/
def ar (c : Cell) : List Cell := ([-1, 0, 1] : List Int).flatMap fun a => (([-1, 0, 1] : List Int).filter fun u => !decide ((a, u) = (0, 0))).map fun u => (c.1 + a, c.2 + u)
def ends (b : List Cell) (s : Cell) : List Cell := (ar s).filter fun e => !decide (supp (isIn b) s e = [])
noncomputable def mvF (b : List Cell) (s : Cell) : List (Cell × Cell) := if (!decide (ends b s = []) && hangB (rest b s)) = true then (ends b s).map fun e => (s, e) else []
noncomputable def mvs (b : List Cell) : List (Cell × Cell) := srt (b.flatMap (mvF b))
theorem mvs_ok {b : List Cell} {m : Cell × Cell} (h : m ∈ mvs b) : okMove b m.1 m.2 = true := by
  unfold mvs at h
  rw [srt_mem, List.mem_flatMap] at h
  obtain ⟨s, hs, h⟩ := h
  unfold mvF at h
  split at h
  · rename_i hc
    rw [Bool.and_eq_true] at hc
    obtain ⟨e, he, rfl⟩ := List.mem_map.mp h
    unfold ends at he
    obtain ⟨_, he⟩ := List.mem_filter.mp he
    refine okMove_iff.mpr ⟨?_, hangB_iff.mp hc.2⟩
    simpa using he
  · cases h
theorem ar_len (c : Cell) : (ar c).length = 8 := by
  simp [ar, List.filter]
theorem ends_len (b : List Cell) (s : Cell) : (ends b s).length ≤ 8 := by
  have := List.length_filter_le (fun e => !decide (supp (isIn b) s e = [])) (ar s)
  rw [ar_len] at this
  exact this
theorem mvF_len (b : List Cell) (s : Cell) : (mvF b s).length ≤ 8 := by
  unfold mvF
  split
  · rw [List.length_map]
    exact ends_len b s
  · exact Nat.zero_le _
theorem flat_len {α β : Type} {f : α → List β} {k : Nat} (h : ∀ x, (f x).length ≤ k) : ∀ xs : List α, (xs.flatMap f).length ≤ k * xs.length
  | [] => Nat.zero_le _
  | x :: r => by
    rw [List.flatMap_cons, List.length_append, List.length_cons]
    have h1 := h x
    have h2 := flat_len h r
    rw [Nat.mul_add]
    omega
/-- a text, or None -/
def kd (b : Bool) : Pd := ⟨fun _ v => if b = true then ∃ x, v = .str x else v = .non, fun _ h => h⟩
section
variable {K : PySem.W.Frag} {s : TSt} {H : Hp} {ta tb : TE} {u : TS} {D : Ends} {P1 P2 : Pd}
theorem ev_str {x : Str} : EvP (tC (.str x)) s H (kd true) := fun H1 _ _ q => q _ H1 Ex.same ⟨x, rfl⟩
theorem ev_nonk : EvP (tC .non) s H (kd false) := fun H1 _ _ q => q _ H1 Ex.same rfl
theorem ev_isNon {b : Bool} {r : R2} (hr : r = fun x y H Q => y = .non ∧ Q (.bl (decide (x = .non))) H) (ha : EvP ta s H (kd b)) : EvP (tOp r ta (tC .non)) s H (en (!b)) := fun H1 e Q q =>
  ha H1 e _ fun v H2 e2 hv => by
    subst hr
    refine ⟨rfl, q _ H2 e2 ?_⟩
    cases b with
    | true =>
      obtain ⟨x, rfl⟩ : ∃ x, v = .str x := hv
      rfl
    | false =>
      obtain rfl : v = .non := hv
      rfl
/-- a, b = new, new (unpacked) -/
theorem q_asg2WW {i j : Nat} (ha : EvW ta s H P1) (hb : EvW tb s H P2) (k : ∀ p q H1, H p = none → H q = none → p ≠ q → Ex H H1 → P1.p H1 (.ref p) → P2.p H1 (.ref q) → u D ((s.set i (some (.ref p))).set j (some (.ref q))) H1) : tSeq (tAsg (tTup (tCons ta (tCons tb tNil))) (gTup K 2 (gCons (gName i) (gCons (gName j) gNil)))) u D s H :=
  ha H Ex.same _ fun p H1 n1 n1' e1 h1 => hb H1 e1 _ fun q H2 n2 n2' e2 h2 => ⟨by show 2 ≤ sizeLine; decide, fun a na =>
    ⟨a, [.ref p, .ref q], rfl, .inl (.inl upd_same), rfl, _, [.ref q], rfl, _, [], rfl, rfl, k p q _ n1 (e1.back n2) (fun z => n1' (by rw [z]; exact n2)) ((e1.tr e2).tr (Ex.new na)) (P1.up (e2.tr (Ex.new na)) h1) (P2.up (Ex.new na) h2)⟩⟩
end
section
variable {P : Program} {w : World} {K : PySem.W.Frag} {mg : Str → Option Value} {base : Heap}
abbrev s_law_t2_kind : Stmt := topS 50
abbrev n_law_t2_kind : List Str := ["_law_body", "_law_start", "_law_end"]
theorem sc_law_t2_kind : FnScope n_law_t2_kind ["_law_body", "_law_start", "_law_end"] (defScope s_law_t2_kind) := ⟨rfl, rfl, rfl, by decide +kernel, rfl, by decide +kernel, by decide +kernel⟩
def spKind : Sp := S3 fun P1 P2 P3 Pz => ∃ (b : List Cell) (s e : Cell), P1 = en b ∧ P2 = en s ∧ P3 = en e ∧ b.length ≤ 1000 ∧ Pz = kd (okMove b s e)
theorem ok_law_kind (T : Txt K mg "_law_t2_kind" "_law_t2_kind" s_law_t2_kind ["_law_body", "_law_start", "_law_end"]) (Z : Blt mg) (C_law_t2_supports : Cal P w K mg base 1 "_law_t2_supports" ["_law_squares", "_law_start", "_law_end"] spSupports)
    (C_law_t2_squares : Cal P w K mg base 1 "_law_t2_squares" ["_law_body"] spSquares) (C_law_t2_free : Cal P w K mg base 4 "_law_t2_free" ["_law_body", "_law_cell"] spFree) : Cal P w K mg base 5 "_law_t2_kind" ["_law_body", "_law_start", "_law_end"] spKind :=
  T.cal sc_law_t2_kind S3.len fun f cdv A outer s H vs Q E hr h => by
    obtain ⟨v1, v2, v3, P1, P2, P3, Pz, rfl, ⟨b, c, d, rfl, rfl, rfl, hlen, rfl⟩, h1, h2, h3, q⟩ := h
    refine ⟨_, (pss_cons (ps_if (PW.pt (pw_or (pt_cmpR (op_eqD (ru64 hr)) (pe_cal C_law_t2_supports (hr.mono (by decide)) (pa_cons (pe_cal C_law_t2_squares (hr.mono (by decide)) (pa_cons (pv 0) pa_nil)) (pa_cons (pv 1) (pa_cons (pv 2) pa_nil)))) (pe_lst pa_nil) (nomark _)) (pw_or1 (pt_not (pt_val (pe_cal C_law_t2_free (hr.mono (by decide)) (pa_cons (pv 0) (pa_cons (pv 1) pa_nil)))))))) (pss_one (ps_ret pe_non)) pss_nil)
      (pss_one (ps_ret (pe_ifExp (PW.pt (pw_or (pt_cmpR op_eq (pe_ix ix_tup (pv 1) pe_int (fun _ _ => rfl)) (pe_ix ix_tup (pv 2) pe_int (fun _ _ => rfl)) (nomark _)) (pw_or1 (pt_cmpR op_eq (pe_ix ix_tup (pv 1) pe_int (fun _ _ => rfl)) (pe_ix ix_tup (pv 2) pe_int (fun _ _ => rfl)) (nomark _))))) pe_str pe_str)))), ?_⟩
    refine q_ifN (b := decide (supp (isIn b) c d = []) || !hangB (rest b c)) (eb_or (eb_test (ev_eqL (xs := supp (isIn b) c d) (ys := []) ?_ en_nil.li)) fun _ => eb_not (eb_B (ev_c2 (P1 := en b) (P2 := en c) (ea_cons (ev_var rfl h1) (ea_cons (ev_var rfl h2) ea_nil)) ⟨_, _, rfl, rfl, hlen, rfl⟩))) (fun hb H1 e1 => ?_) fun hb H1 e1 => ?_
    · refine (ew_c3 (P1 := ds (dall b)) (P2 := en c) (P3 := en d) (ea_cons (ew_c1 (P1 := en b) (ea_cons (ev_var rfl h1) ea_nil) ⟨_, .inl rfl, hlen, rfl⟩).p (ea_cons (ev_var rfl h2) (ea_cons (ev_var rfl h3) ea_nil))) ⟨_, _, _, rfl, rfl, rfl, ?_⟩).p
      rw [dall_in]
    · refine s_ret ev_nonk fun v H2 e2 hv => q v H2 (e1.tr e2) ?_
      unfold okMove
      rw [hb]
      exact hv
    · refine s_ret (P := kd true) (ev_if (b := decide (c.1 = d.1) || decide (c.2 = d.2)) (eb_or (eb_test (ev_eqI (ev_fst (ev_var rfl (en_up e1 h2))) (ev_fst (ev_var rfl (en_up e1 h3))))) fun _ => eb_test (ev_eqI (ev_snd (ev_var rfl (en_up e1 h2))) (ev_snd (ev_var rfl (en_up e1 h3))))) (fun _ => ev_str) fun _ => ev_str) fun v H2 e2 hv => q v H2 (e1.tr e2) ?_
      unfold okMove
      rw [hb]
      exact hv
abbrev s_law_t2_around : Stmt := topS 51
abbrev n_law_t2_around : List Str := ["_law_cell", "_law_found", "_law_across", "_law_up"]
theorem sc_law_t2_around : FnScope n_law_t2_around ["_law_cell"] (defScope s_law_t2_around) := ⟨rfl, rfl, rfl, by decide +kernel, rfl, by decide +kernel, by decide +kernel⟩
def spAround : Sp := S1W fun P1 Pz => ∃ c : Cell, P1 = en c ∧ Pz = li (ar c)
theorem ok_law_around (T : Txt K mg "_law_t2_around" "_law_t2_around" s_law_t2_around ["_law_cell"]) (Z : Blt mg) : Cal P w K mg base 1 "_law_t2_around" ["_law_cell"] spAround :=
  T.cal sc_law_t2_around S1W.len fun f cdv A outer s H vs Q E hr h => by
    obtain ⟨v, P1, Pz, rfl, ⟨c, rfl, rfl⟩, hv, q⟩ := h
    refine ⟨_, (pss_cons (ps_set (i := 1) sc_law_t2_around.nd rfl (Or.inl rfl) (pe_lst pa_nil))
      (pss_cons (ps_for PassesOwn.never rfl (pi_list (pe_lst (pa_cons (pe_un un_neg pe_int) (pa_cons pe_int (pa_cons pe_int pa_nil))))) (pg_name (i := 2) sc_law_t2_around.nd rfl (Or.inr rfl)) (pss_one (ps_set (i := 1) sc_law_t2_around.nd rfl (Or.inl rfl) (pe_op op_cat (pv 1) (pe_lc (own := [("_law_up", 3)]) (g := gName 3) rfl sc_law_t2_around.nd (pi_list (pe_lst (pa_cons (pe_un un_neg pe_int) (pa_cons pe_int (pa_cons pe_int pa_nil))))) (blkOk_by (N := n_law_t2_around) (sc := defScope s_law_t2_around) (by decide +kernel)) (fun _ _ _ _ _ => (pg_name (i := 3) sc_law_t2_around.nd rfl (Or.inl rfl))) (fun _ _ _ _ _ => (pts_one (pt_cmpR (op_neD (ru64 hr) : OpR _ _ (rNeD K)) (pe_tup (pa_cons (pv 2) (pa_cons (pv 3) pa_nil))) (pe_tup (pa_cons pe_int (pa_cons pe_int pa_nil))) (nomark _)))) (fun _ _ _ _ _ => (pe_tup (pa_cons (pe_op op_add (pe_ix (ix_tup : IxR _ (rIxT K)) (pv 0) pe_int (fun _ _ => rfl)) (pv 2)) (pa_cons (pe_op op_add (pe_ix (ix_tup : IxR _ (rIxT K)) (pv 0) pe_int (fun _ _ => rfl)) (pv 3)) pa_nil)))))))))
      (pss_one (ps_ret (pv 1))))), ?_⟩
    refine q_asgN (en_nil (α := Cell)) fun p H1 n1 e1 hp => ?_
    have h3 : ∀ {s : TSt} {H : Hp}, EvN (tLst (tCons (tUn (rU fun i => .int (-i)) (tC (.int 1))) (tCons (tC (.int 0)) (tCons (tC (.int 1)) tNil)))) s H ([-1, 0, 1] : List Int) := en_lst (xs := [-1, 0, 1]) (ea_cons (ev_neg (i := 1) ev_int) (ea_cons ev_int (ea_cons ev_int ea_nil)))
    refine q_forN [] (xs := [-1, 0, 1]) h3 (fun a ha => absurd ha List.not_mem_nil) fun H2 e2 => ⟨fun i s' H' => ∃ p u2, s' = [some v, some (.ref p), u2, none] ∧ Mv [] H2 H' ∧ H p = none ∧
      Ls H' p (([-1, 0, 1].take i).flatMap fun a => (([-1, 0, 1] : List Int).filter fun u => !decide ((a, u) = (0, 0))).map fun u => (c.1 + a, c.2 + u)), ⟨p, _, rfl, Mv.same, n1, hp.up e2⟩, fun i s' H' ⟨_, _, _, mm, _⟩ => mm, fun i a u s' H' ha hu ⟨p, u2, es, mm, np, hpi⟩ => ?_, fun s' H' ⟨p, u2, es, mm, np, hpi⟩ => ?_⟩
    · subst es
      have hE : Ex H H' := (e1.tr e2).mv mm fun a ha => absurd ha List.not_mem_nil
      refine s_asgN (en_cat (ev_li rfl hpi) (en_lcL (p := fun u : Int => !decide ((a, u) = ((0 : Int), (0 : Int)))) (f := fun u : Int => (c.1 + a, c.2 + u)) h3.li (by decide) fun x u' H'' hx e'' hu' => ⟨eb_test (ev_neE (ev_pair (ev_var rfl (en_up e'' hu)) (ev_var rfl hu')) (ev_pair ev_int ev_int)), fun _ =>
        ev_pair (ev_I (ev_fst (ev_var rfl (en_up (hE.tr e'') hv))) (ev_var rfl (en_up e'' hu))) (ev_I (ev_snd (ev_var rfl (en_up (hE.tr e'') hv))) (ev_var rfl hu'))⟩).li ?_) fun p2 H3 n3 e3 hp3 => ⟨p2, _, rfl, mm.ex e3, hE.back n3, ?_⟩
      · have h1 := flat_len (f := fun a => (([-1, 0, 1] : List Int).filter fun u => !decide ((a, u) = (0, 0))).map fun u => (c.1 + a, c.2 + u)) (k := 3) (fun x => by
          rw [List.length_map]
          exact List.length_filter_le _ _) ([-1, 0, 1].take i)
        have h2 := List.length_take_le' i ([-1, 0, 1] : List Int)
        have h3 := List.length_filter_le (fun u => !decide ((a, u) = ((0 : Int), (0 : Int)))) ([-1, 0, 1] : List Int)
        rw [List.length_map]
        simp only [List.length_cons, List.length_nil] at h2 h3
        omega
      · rw [take_snoc ha, List.flatMap_append, List.flatMap_singleton]
        exact hp3
    · subst es
      have hE : Ex H H' := (e1.tr e2).mv mm fun a ha => absurd ha List.not_mem_nil
      refine s_ret (P := va (.ref p)) (ev_vr rfl) fun v H9 e9 hv => ?_
      obtain rfl : v = .ref p := hv
      rw [List.take_length] at hpi
      exact q p H9 np (hpi.up e9).nn (hE.tr e9) ⟨p, rfl, hpi.up e9⟩
end
end TB
set_option Elab.async false
set_option linter.all false
set_option maxRecDepth 100000
set_option maxHeartbeats 2000000
/-! D6: moves, first_wrong. -/
namespace TB
open PySem PySem.Spec PyProof.Rows L2
/-- a pair of two things -/
def prP (P1 P2 : Pd) : Pd := ⟨fun H v => ∃ a x y, v = .ref a ∧ H a = some (.tup [x, y]) ∧ P1.p H x ∧ P2.p H y, fun e ⟨a, x, y, h1, h2, h3, h4⟩ => ⟨a, x, y, h1, e _ _ h2, P1.up e h3, P2.up e h4⟩⟩
/-- what first_wrong says: (None, bodies), or (i, bodies up to there) -/
def fwP (b : List Cell) (plan : List (Cell × Cell)) : Pd := ⟨fun H v => ∃ pl, ((pl = plan ∧ okPlan b plan = true ∧ (prP nn (li (bods b pl))).p H v) ∨
  ∃ (i : Nat) (m : Cell × Cell), pl = plan.take i ∧ plan[i]? = some m ∧ okPlan b pl = true ∧ okMove (endB b pl) m.1 m.2 = false ∧ (prP (en (i : Int)) (li (bods b pl))).p H v), fun e ⟨pl, h⟩ => ⟨pl, by
  rcases h with ⟨h1, h2, h3⟩ | ⟨i, m, h1, h2, h3, h4, h5⟩
  · exact .inl ⟨h1, h2, (prP _ _).up e h3⟩
  · exact .inr ⟨i, m, h1, h2, h3, h4, (prP _ _).up e h5⟩⟩⟩
section
variable {s : TSt} {H : Hp} {ta tb : TE} {P1 P2 : Pd}
theorem ev_prP (ha : EvP ta s H P1) (hb : EvP tb s H P2) : EvP (tTup (tCons ta (tCons tb tNil))) s H (prP P1 P2) := fun H1 e Q q =>
  ha H1 e _ fun v H2 e2 hv => hb H2 (e.tr e2) _ fun w H3 e3 hw => ⟨by show 2 ≤ sizeLine; decide, fun p hp =>
    q _ _ ((e2.tr e3).tr (Ex.new hp)) ⟨p, v, w, rfl, upd_same, P1.up (e3.tr (Ex.new hp)) hv, P2.up (Ex.new hp) hw⟩⟩
end
section
variable {P : Program} {w : World} {K : PySem.W.Frag} {mg : Str → Option Value} {base : Heap}
abbrev s_law_t2_moves : Stmt := topS 52
abbrev n_law_t2_moves : List Str := ["_law_body", "_law_squares", "_law_found", "_law_start", "_law_ends", "_law_end"]
theorem sc_law_t2_moves : FnScope n_law_t2_moves ["_law_body"] (defScope s_law_t2_moves) := ⟨rfl, rfl, rfl, by decide +kernel, rfl, by decide +kernel, by decide +kernel⟩
def spMoves : Sp := S1W fun P1 Pz => ∃ b : List Cell, P1 = en b ∧ b.length ≤ 1000 ∧ Pz = li (mvs b)
theorem ok_law_moves (T : Txt K mg "_law_t2_moves" "_law_t2_moves" s_law_t2_moves ["_law_body"]) (Z : Blt mg) (C_law_t2_supports : Cal P w K mg base 1 "_law_t2_supports" ["_law_squares", "_law_start", "_law_end"] spSupports)
    (C_law_t2_squares : Cal P w K mg base 1 "_law_t2_squares" ["_law_body"] spSquares) (C_law_t2_free : Cal P w K mg base 4 "_law_t2_free" ["_law_body", "_law_cell"] spFree) (C_law_t2_around : Cal P w K mg base 1 "_law_t2_around" ["_law_cell"] spAround) : Cal P w K mg base 5 "_law_t2_moves" ["_law_body"] spMoves :=
  T.cal sc_law_t2_moves S1W.len fun f cdv A outer s H vs Q E hr h => by
    obtain ⟨v, P1, Pz, rfl, ⟨b, rfl, hlen, rfl⟩, hv, q⟩ := h
    refine ⟨_, (pss_cons (ps_asg (pe_tup (pa_cons (pe_cal C_law_t2_squares (hr.mono (by decide)) (pa_cons (pv 0) pa_nil)) (pa_cons (pe_lst pa_nil) pa_nil))) (pg_tup rfl (pgs_cons (pg_name (i := 1) sc_law_t2_moves.nd rfl (Or.inr rfl)) (pgs_cons (pg_name (i := 2) sc_law_t2_moves.nd rfl (Or.inl rfl)) pgs_nil))))
      (pss_cons (ps_for PassesOwn.never rfl (pi_tup (pv 0)) (pg_name (i := 3) sc_law_t2_moves.nd rfl (Or.inr rfl)) (pss_cons (ps_setLc (i := 4) (own := [("_law_end", 5)]) (g := gName 5)  rfl sc_law_t2_moves.nd rfl rfl (sw_true rfl rfl rfl (by decide +kernel)) (pi_list (pe_cal C_law_t2_around (hr.mono (by decide)) (pa_cons (pv 3) pa_nil))) (blkOk_by (N := n_law_t2_moves) (sc := defScope s_law_t2_moves) (by decide +kernel)) (fun _ _ _ _ _ => (pg_name (i := 5) sc_law_t2_moves.nd rfl (Or.inl rfl))) (fun _ _ _ _ _ => (pts_one (pt_cmpR (op_neD (ru64 hr) : OpR _ _ (rNeD K)) (pe_cal C_law_t2_supports (hr.mono (by decide)) (pa_cons (pv 1) (pa_cons (pv 3) (pa_cons (pv 5) pa_nil)))) (pe_lst pa_nil) (nomark _)))) (fun _ _ _ _ _ => (pv 5)))
      (pss_one (ps_if (PW.pt (pw_and (pt_cmpR (op_neD (ru64 hr)) (pv 4) (pe_lst pa_nil) (nomark _)) (pw_and1 (pt_val (pe_cal C_law_t2_free (hr.mono (by decide)) (pa_cons (pv 0) (pa_cons (pv 3) pa_nil))))))) (pss_one (ps_set (i := 2) sc_law_t2_moves.nd rfl (Or.inl rfl) (pe_op op_cat (pv 2) (pe_lc (own := [("_law_end", 5)]) (g := gName 5) (tt := tYes) rfl sc_law_t2_moves.nd (pi_list (pv 4)) (blkOk_by (N := n_law_t2_moves) (sc := defScope s_law_t2_moves) (by decide +kernel)) (fun _ _ _ _ _ => (pg_name (i := 5) sc_law_t2_moves.nd rfl (Or.inl rfl))) (fun _ _ _ _ _ => pts_nil) (fun _ _ _ _ _ => (pe_tup (pa_cons (pv 3) (pa_cons (pv 5) pa_nil)))))))) pss_nil))))
      (pss_one (ps_ret (pe_callB (cr_sortE (a := (Cell × Cell)) (by decide) (ru64 hr)) (by rfl) Z.sorted (by decide +kernel) (pa_cons (pv 2) pa_nil)))))), ?_⟩
    refine q_asg2WW (ew_c1 (P1 := en b) (ea_cons (ev_var rfl hv) ea_nil) ⟨_, .inl rfl, hlen, rfl⟩) (en_nil (α := Cell × Cell)).w fun d p H1 nd np hdp e1 hd hp => ?_
    replace hd := ds_at hd
    replace hp := li_at hp
    refine q_forT (ev_var rfl (en_up e1 hv)) fun H2 e2 => ⟨fun i s' H' => ∃ p u3 u4, s' = [some v, some (.ref d), some (.ref p), u3, u4, none] ∧ Mv [] H2 H' ∧ H p = none ∧ Ls H' p ((b.take i).flatMap (mvF b)), ⟨p, _, _, rfl, Mv.same, np, hp.up e2⟩, fun i s' H' ⟨_, _, _, _, mm, _⟩ => mm.tu, fun i x u s' H' hx hu ⟨p, u3, u4, es, mm, np, hpi⟩ => ?_, fun s' H' ⟨p, u3, u4, es, mm, np, hpi⟩ => ?_⟩
    · subst es
      have hE : Ex H H' := (e1.tr e2).mv mm fun a ha => absurd ha List.not_mem_nil
      have hd' : Dc H' d (dall b) := (hd.up e2).mv List.not_mem_nil mm
      refine q_asgN (xs := ends b x) ((en_lcL (p := fun e => !decide (supp (isIn b) x e = [])) (f := fun e => e) (ew_c1 (P1 := en x) (ea_cons (ev_var rfl hu) ea_nil) ⟨_, rfl, rfl⟩).p (by rw [ar_len]; decide) fun e u' H'' he e'' hu' => ⟨eb_test ?_, fun _ => ev_var rfl hu'⟩).is (List.map_id' _)) fun p4 H3 n3 e3 hp4 => ?_
      · refine ev_neL (xs := supp (isIn b) x e) (ys := []) (ew_c3 (P1 := ds (dall b)) (P2 := en x) (P3 := en e) (ea_cons (ev_ds rfl (hd'.up e'')) (ea_cons (ev_var rfl (en_up e'' hu)) (ea_cons (ev_var rfl hu') ea_nil))) ⟨_, _, _, rfl, rfl, rfl, ?_⟩).p en_nil.li
        rw [dall_in]
      · have fin : ∀ {r : List (Cell × Cell)}, mvF b x = r → (b.take (i + 1)).flatMap (mvF b) = (b.take i).flatMap (mvF b) ++ r := fun e => by
          rw [take_snoc hx, List.flatMap_append, List.flatMap_singleton, e]
        refine s_ifN (b := !decide (ends b x = []) && hangB (rest b x)) (eb_and (eb_test (ev_neL (ev_li rfl hp4) en_nil.li)) fun _ => eb_B (ev_c2 (P1 := en b) (P2 := en x) (ea_cons (ev_var rfl (en_up (hE.tr e3) hv)) (ea_cons (ev_var rfl (en_up e3 hu)) ea_nil)) ⟨_, _, rfl, rfl, hlen, rfl⟩)) (fun hb H4 e4 => ?_) fun hb H4 e4 => ?_
        · refine s_asgN (en_cat (ev_li rfl (hpi.up (e3.tr e4))) (en_lcL (p := fun _ => true) (f := fun e : Cell => (x, e)) (ev_li rfl (hp4.up e4)) (by have := ends_len b x; omega) fun e u' H'' he e'' hu' => ⟨eb_yes, fun _ => ev_pair (ev_var rfl (en_up ((e3.tr e4).tr e'') hu)) (ev_var rfl hu')⟩).li ?_) fun p2 H5 n5 e5 hp5 => ⟨p2, _, _, rfl, ((mm.ex e3).ex e4).ex e5, ((hE.tr e3).tr e4).back n5, ?_⟩
          · have h1 := flat_len (f := mvF b) (k := 8) (mvF_len b) (b.take i)
            have h2 := List.length_take_le' i b
            have h3 := ends_len b x
            have h4 := List.length_filter_le (fun _ => true) (ends b x)
            rw [List.length_map]
            omega
          · rw [fin (r := (ends b x).map fun e => (x, e)) (by unfold mvF; rw [if_pos hb])]
            rw [List.filter_eq_self.mpr fun _ _ => rfl] at hp5
            exact hp5
        · refine ⟨p, _, _, rfl, (mm.ex e3).ex e4, np, ?_⟩
          rw [fin (r := []) (by unfold mvF; rw [if_neg (by rw [hb]; exact Bool.false_ne_true)]), List.append_nil]
          exact hpi.up (e3.tr e4)
    · subst es
      have hE : Ex H H' := (e1.tr e2).mv mm fun a ha => absurd ha List.not_mem_nil
      rw [List.take_length] at hpi
      exact s_retN (en_sort (ev_li rfl hpi) (.inl fun x _ => ⟨_, _, rfl⟩)) fun p3 H9 n9 e9 hp9 => q p3 H9 (hE.back n9) hp9.nn (hE.tr e9) ⟨p3, rfl, hp9⟩
abbrev s_law_t2_first_wrong : Stmt := topS 55
abbrev n_law_t2_first_wrong : List Str := ["_law_body", "_law_plan", "_law_bodies", "_law_at", "_law_start", "_law_end"]
theorem sc_law_t2_first_wrong : FnScope n_law_t2_first_wrong ["_law_body", "_law_plan"] (defScope s_law_t2_first_wrong) := ⟨rfl, rfl, rfl, by decide +kernel, rfl, by decide +kernel, by decide +kernel⟩
def spFirstWrong : Sp := S2 fun P1 P2 Pz => ∃ (b : List Cell) (plan : List (Cell × Cell)), P1 = en b ∧ P2 = li plan ∧ b.length ≤ 1000 ∧ plan.length ≤ 1000 ∧ Pz = fwP b plan
theorem ok_law_first_wrong (T : Txt K mg "_law_t2_first_wrong" "_law_t2_first_wrong" s_law_t2_first_wrong ["_law_body", "_law_plan"]) (Z : Blt mg) (C_law_t2_is_cell : Cal P w K mg base 2 "_law_t2_is_cell" ["_law_one"] spIsCell)
    (C_law_t2_kind : Cal P w K mg base 5 "_law_t2_kind" ["_law_body", "_law_start", "_law_end"] spKind) (C_law_t2_done : Cal P w K mg base 1 "_law_t2_done" ["_law_body", "_law_start", "_law_end"] spDone) : Cal P w K mg base 6 "_law_t2_first_wrong" ["_law_body", "_law_plan"] spFirstWrong :=
  T.cal sc_law_t2_first_wrong S2.len fun f cdv A outer s H vs Q E hr h => by
    obtain ⟨v1, v2, P1, P2, Pz, rfl, ⟨b, plan, rfl, rfl, hlen, hlen2, rfl⟩, hb, ⟨a, rfl, ha⟩, q⟩ := h
    refine ⟨_, (pss_cons (ps_set (i := 2) sc_law_t2_first_wrong.nd rfl (Or.inl rfl) (pe_lst (pa_cons (pv 0) pa_nil)))
      (pss_cons (ps_for PassesOwn.never rfl (pi_range1 (by rfl) Z.range (pa_cons (pe_callB call_len_seq (by rfl) Z.len (by decide +kernel) (pa_cons (pv 1) pa_nil)) pa_nil)) (pg_name (i := 3) sc_law_t2_first_wrong.nd rfl (Or.inl rfl)) (pss_cons (ps_asg (pe_ix ix_list (pv 1) (pv 3) (fun _ _ => rfl)) (pg_tup rfl (pgs_cons (pg_name (i := 4) sc_law_t2_first_wrong.nd rfl (Or.inl rfl)) (pgs_cons (pg_name (i := 5) sc_law_t2_first_wrong.nd rfl (Or.inl rfl)) pgs_nil))))
      (pss_cons (ps_if (PW.pt (pw_or (pt_not (pt_val (pe_cal C_law_t2_is_cell (hr.mono (by decide)) (pa_cons (pv 4) pa_nil)))) (pw_or (pt_not (pt_val (pe_cal C_law_t2_is_cell (hr.mono (by decide)) (pa_cons (pv 5) pa_nil)))) (pw_or1 (pt_cmpR op_isN (pe_cal C_law_t2_kind (hr.mono (by decide)) (pa_cons (pe_ix ix_list (pv 2) (pe_un un_neg pe_int) (fun _ _ => rfl)) (pa_cons (pv 4) (pa_cons (pv 5) pa_nil)))) pe_non (nomark _)))))) (pss_one (ps_ret (pe_tup (pa_cons (pv 3) (pa_cons (pv 2) pa_nil))))) pss_nil)
      (pss_one (ps_expr (pe_bm PySem.F.plainAttrs_list PySem.F.slot_list_append PySem.F.type_list_append mt_append (pv 2) (pa_cons (pe_cal C_law_t2_done (hr.mono (by decide)) (pa_cons (pe_ix ix_list (pv 2) (pe_un un_neg pe_int) (fun _ _ => rfl)) (pa_cons (pv 4) (pa_cons (pv 5) pa_nil)))) pa_nil)))))))
      (pss_one (ps_ret (pe_tup (pa_cons pe_non (pa_cons (pv 2) pa_nil))))))), ?_⟩
    refine q_asgN (xs := [b]) (en_lst (xs := [b]) (ea_cons (ev_var rfl hb) ea_nil)) fun p H1 n1 e1 hp => ?_
    have hap : a ≠ p := ha.ne_new n1
    refine q_forR1 (n := (plan.length : Int)) (ea_cons (ev_len rfl (ev_li rfl (ha.up e1))) ea_nil) (by omega) fun H2 e2 => ⟨fun i s' H' => ∃ u3 u4 u5, s' = [some v1, some (.ref a), some (.ref p), u3, u4, u5] ∧ Mv [p] H2 H' ∧ okPlan b (plan.take i) = true ∧ Ls H' p (bods b (plan.take i)), ⟨_, _, _, rfl, Mv.same, rfl, hp.up e2⟩, fun i s' H' hi ⟨u3, u4, u5, es, mm, hok, hpi⟩ => ?_, fun s' H' ⟨u3, u4, u5, es, mm, hok, hpi⟩ => ?_⟩
    · subst es
      have hE : Ex H H' := (e1.tr e2).mv mm (no1 n1)
      obtain ⟨m, hm⟩ : ∃ m, plan[i]? = some m := ⟨_, List.getElem?_eq_getElem (by omega)⟩
      have heL : (endB b (plan.take i)).length ≤ 1000 := Nat.le_trans (endB_len hok) hlen
      refine q_asgP (x := m) (ev_ixL (ev_li rfl (ha.up hE)) (ev_var rfl rfl) (atI_nat hm)) fun w1 w2 H3 e3 k1 k2 => ?_
      have hk : ∀ {s : TSt} {H4}, s[2]? = some (some (.ref p)) → s[4]? = some (some w1) → s[5]? = some (some w2) → Ex H3 H4 → EvA (tCons (tOp (rIxL K) (tVar 2) (tUn (rU fun i => .int (-i)) (tC (.int 1)))) (tCons (tVar 4) (tCons (tVar 5) tNil))) s H4 [en (endB b (plan.take i)), en m.1, en m.2] := fun h1 h2 h3 e =>
        ea_cons (ev_ixL (ev_li h1 (hpi.up (e3.tr e))) (ev_neg (i := 1) ev_int) (bods_at b _)) (ea_cons (ev_var h2 (en_up e k1)) (ea_cons (ev_var h3 (en_up e k2)) ea_nil))
      refine q_ifN (b := !true || (!true || !okMove (endB b (plan.take i)) m.1 m.2)) (eb_or (eb_not (eb_B (ev_c1 (P1 := en m.1) (ea_cons (ev_var rfl k1) ea_nil) ⟨_, rfl, rfl⟩))) fun _ => eb_or (eb_not (eb_B (ev_c1 (P1 := en m.2) (ea_cons (ev_var rfl k2) ea_nil) ⟨_, rfl, rfl⟩))) fun _ => eb_test (ev_isNon rfl (ev_c3 (hk rfl rfl rfl Ex.same) ⟨_, _, _, rfl, rfl, rfl, heL, rfl⟩))) (fun hb H4 e4 => ?_) fun hb H4 e4 => ?_
      · have hbad : okMove (endB b (plan.take i)) m.1 m.2 = false := by
          cases hz : okMove (endB b (plan.take i)) m.1 m.2 with
          | false => rfl
          | true =>
            rw [hz] at hb
            cases hb
        refine s_ret (ev_prP (P1 := en (i : Int)) (P2 := li (bods b (plan.take i))) (ev_var rfl rfl) (ev_li rfl (hpi.up (e3.tr e4)))) fun v H5 e5 hv => q v H5 (((hE.tr e3).tr e4).tr e5) ⟨_, .inr ⟨i, m, rfl, hm, hok, hbad, hv⟩⟩
      · have hgood : okMove (endB b (plan.take i)) m.1 m.2 = true := by
          cases hz : okMove (endB b (plan.take i)) m.1 m.2 with
          | true => rfl
          | false =>
            rw [hz] at hb
            cases hb
        refine s_app' (x := endB b (plan.take (i + 1))) (hpi.up (e3.tr e4)) (ev_vr rfl) ?_ (by
          rw [bods_len]
          have := List.length_take_le' i plan
          omega) fun H5 e5 H6 b6 hp6 => ⟨_, _, _, rfl, (((mm.ex e3).ex e4).ex e5).but b6 (.inl List.mem_cons_self), ?_, ?_⟩
        · rw [take_snoc hm, endB_snoc]
          exact ev_c3 (hk rfl rfl rfl e4) ⟨_, _, _, rfl, rfl, rfl, heL, rfl⟩
        · rw [take_snoc hm, okPlan_snoc, hok, hgood]
          rfl
        · rw [take_snoc hm] at hp6 ⊢
          rw [bods_snoc]
          exact hp6
    · subst es
      have hE : Ex H H' := (e1.tr e2).mv mm (no1 n1)
      rw [Int.toNat_natCast, List.take_length] at hok hpi
      exact s_ret (ev_prP (P1 := nn) (P2 := li (bods b plan)) ev_non (ev_li rfl hpi)) fun v H5 e5 hv => q v H5 (hE.tr e5) ⟨_, .inl ⟨rfl, hok, hv⟩⟩
end
end TB
set_option Elab.async false
set_option linter.all false
set_option maxRecDepth 100000
set_option maxHeartbeats 2000000
/-! D7: papers, what they read, what is tied. -/
namespace TB
open PySem PySem.Spec PyProof.Rows L2
structure Paper where
  s : Cell
  e : Cell
  sup : List Cell
  wit : List Cell
deriving DecidableEq
instance : Enc Paper where
  r := fun H v x => ∃ a u1 u2 u3 u4, v = .ref a ∧ H a = some (.tup [u1, u2, u3, u4]) ∧ Enc.r H u1 x.s ∧ Enc.r H u2 x.e ∧ Enc.r H u3 x.sup ∧ Enc.r H u4 x.wit
  mono := fun t ⟨a, u1, u2, u3, u4, e, h, h1, h2, h3, h4⟩ => ⟨a, u1, u2, u3, u4, e, t _ _ h, Enc.mono t h1, Enc.mono t h2, Enc.mono t h3, Enc.mono t h4⟩
  d := fun x => .tuple [Enc.d x.s, Enc.d x.e, Enc.d x.sup, Enc.d x.wit]
  dp := fun K {H v x} ⟨a, u1, u2, u3, u4, e, h, h1, h2, h3, h4⟩ => by
    subst e
    exact .tup (.inl (.inl h)) (.cons (Enc.dp K h1) (.cons (Enc.dp K h2) (.cons (Enc.dp K h3) (.cons (Enc.dp K h4) .nil))))
  lay := fun x => by simp [PyData.canLay0, PyData.canLayAll0, Enc.lay]
  dep := 3
  dle := fun x => by
    have h1 : (Enc.d x.s).depth ≤ 1 := Enc.dle x.s
    have h2 : (Enc.d x.e).depth ≤ 1 := Enc.dle x.e
    have h3 : (Enc.d x.sup).depth ≤ 2 := Enc.dle x.sup
    have h4 : (Enc.d x.wit).depth ≤ 2 := Enc.dle x.wit
    simp only [PyData.depth, PyData.depthAll]
    omega
  inj := fun x y => by
    obtain ⟨a, b, c, d⟩ := x
    obtain ⟨a', b', c', d'⟩ := y
    simp only [PyData.eqv, PyData.eqvAll, Enc.inj, Bool.and_true]
    simp only [Paper.mk.injEq]
    rw [Bool.eq_iff_iff]
    simp
/-- is in the list -/
def memB {α : Type} [DecidableEq α] (x : α) (xs : List α) : Bool := decide (x ∈ xs)
theorem memB_iff {α : Type} [DecidableEq α] {x : α} {xs : List α} : memB x xs = true ↔ x ∈ xs := by
  unfold memB
  exact decide_eq_true_iff
theorem ev_inM {α : Type} [DecidableEq α] [Enc α] {K : PySem.W.Frag} {s : TSt} {H : Hp} {ta tb : TE} {x : α} {xs : List α} (ha : EvP ta s H (en x)) (hb : EvP tb s H (li xs)) (hd : Enc.dep α + 1 ≤ 64 := by decide) : EvP (tOp (rInD K) ta tb) s H (en (memB x xs)) := ev_inL ha hb hd
/-- the squares of a list, once each, in order -/
def sset (xs : List Cell) : List Cell := srt ((dall xs).map (·.1))
theorem mem_sset {xs : List Cell} {c : Cell} : c ∈ sset xs ↔ c ∈ xs := by
  unfold sset
  rw [srt_mem, dall_keys]
theorem perm_nodup {α : Type} [DecidableEq α] {a b : List α} (ha : a.Nodup) (hb : b.Nodup) (h : ∀ x, x ∈ a ↔ x ∈ b) : a.Perm b := (List.perm_ext_iff_of_nodup ha hb).mpr h
theorem sset_of {xs cs : List Cell} (h : cs.Nodup) (m : ∀ c, c ∈ cs ↔ c ∈ xs) : srt cs = sset xs := by
  refine srt_one ((srt_perm _).trans (perm_nodup (dall_nd xs) h fun c => ?_)) (srt_pw _)
  rw [dall_keys, m]
theorem sset_nodup {xs : List Cell} : (sset xs).Nodup := (srt_perm _).nodup_iff.mpr (dall_nd xs)
/-- some set, of the squares of xs -/
def se (P : Program) (w : World) (xs : List Cell) : Pd := ⟨fun H v => ∃ a L cs, v = .ref a ∧ H a = some (SetTO P w a L) ∧ SetCs H L cs ∧ ∀ c, c ∈ cs ↔ c ∈ xs, fun e ⟨a, L, cs, h1, h2, h3, h4⟩ => ⟨a, L, cs, h1, e _ _ h2, paired_map h3 fun _ _ z => ⟨e _ _ z.1, z.2⟩, h4⟩⟩
theorem cells_ks {H : Hp} {us : List V} {xs : List Cell} (h : Paired (Enc.r H) us xs) : ∃ ks : List (Addr × List Int), us = ks.map (fun p => V.ref p.1) ∧ SetCs H ks xs := by
  induction h with
  | nil => exact ⟨[], rfl, .nil⟩
  | @cons u x us xs a t ih =>
    obtain ⟨ks, e, hs⟩ := ih
    obtain ⟨b, w1, w2, e2, hb, h1, h2⟩ := a
    obtain rfl : w1 = .int x.1 := h1
    obtain rfl : w2 = .int x.2 := h2
    exact ⟨(b, [x.1, x.2]) :: ks, by rw [e2, e]; rfl, .cons ⟨hb, rfl⟩ hs⟩
theorem setCs_mem {H : Hp} {L : List (Addr × List Int)} {cs : List Cell} (h : SetCs H L cs) : ∀ {p}, p ∈ L → ∃ c, c ∈ cs ∧ H p.1 = some (.tup [.int c.1, .int c.2]) ∧ p.2 = [c.1, c.2] := fun hp => by
  obtain ⟨c, h1, h2⟩ := paired_mem h hp
  exact ⟨c, h1, h2⟩
theorem setCs_mem2 {H : Hp} {L : List (Addr × List Int)} {cs : List Cell} (h : SetCs H L cs) {c : Cell} (hc : c ∈ cs) : ∃ p, p ∈ L ∧ H p.1 = some (.tup [.int c.1, .int c.2]) ∧ p.2 = [c.1, c.2] := by
  induction h with
  | nil => cases hc
  | @cons p x L cs a t ih =>
    rcases List.mem_cons.mp hc with e | e
    · subst e
      exact ⟨_, List.mem_cons_self, a⟩
    · obtain ⟨p, h1, h2⟩ := ih e
      exact ⟨p, List.mem_cons_of_mem _ h1, h2⟩
/-- tuples of cells, picked out of others -/
theorem setCs_pick {H : Hp} {ks : List (Addr × List Int)} {xs : List Cell} (h : SetCs H ks xs) : ∀ {L : List (Addr × List Int)}, (∀ p, p ∈ L → p ∈ ks) → ∃ cs, SetCs H L cs ∧ ∀ c, c ∈ cs → c ∈ xs
  | [], _ => ⟨[], .nil, fun c hc => by cases hc⟩
  | p :: r, hp => by
    obtain ⟨c, h1, h2⟩ := setCs_mem h (hp p List.mem_cons_self)
    obtain ⟨cs, h3, h4⟩ := setCs_pick h (L := r) fun q hq => hp q (List.mem_cons_of_mem _ hq)
    refine ⟨c :: cs, .cons h2 h3, fun d hd => ?_⟩
    rcases List.mem_cons.mp hd with e | e
    · rw [e]
      exact h1
    · exact h4 d e
section
variable {P : Program} {w : World} {K : PySem.W.Frag} {s : TSt} {H : Hp} {ta : TE}
theorem ev_setL {xs : List Cell} (ha : EvP ta s H (li xs)) (hl : xs.length < 64) : EvP (tCB (rSetOfT K P w) (tCons ta tNil)) s H (se P w xs) := fun H1 e Q q =>
  ha H1 e _ fun v H2 e2 ⟨l, ev, us, h1, h2⟩ => by
    obtain ⟨ks, eu, hk⟩ := cells_ks h2
    refine ⟨l, ks, by rw [ev], .inl (.inl (by rw [h1, eu])), fun p hp => ?_, by rw [setCs_len hk]; exact hl, fun a L na hL hL2 => ?_⟩
    · obtain ⟨c, _, g1, g2⟩ := setCs_mem hk hp
      rw [g2]
      exact .inl (.inl g1)
    · obtain ⟨cs, hcs, hin⟩ := setCs_pick hk hL
      refine q _ _ (e2.tr (Ex.new na)) ⟨a, L, cs, rfl, upd_same, paired_map hcs fun _ _ z => ⟨Ex.new na _ _ z.1, z.2⟩, fun c => ⟨hin c, fun hc => ?_⟩⟩
      obtain ⟨p, g1, _, g3⟩ := setCs_mem2 hk hc
      obtain ⟨p', g4, g5⟩ := List.mem_map.mp (hL2 p g1)
      obtain ⟨c', g6, _, g7⟩ := setCs_mem hcs g4
      rw [g5, g3] at g7
      injection g7 with z1 z2
      injection z2 with z2 _
      rw [show c = c' from Prod.ext z1 z2]
      exact g6
theorem en_sortS {xs : List Cell} (ha : EvP ta s H (se P w xs)) : EvN (tCB (rSortSet P w) (tCons ta tNil)) s H (sset xs) := fun H1 e Q q =>
  ha H1 e _ fun v H2 e2 ⟨a, L, cs, ev, h1, h2, h3⟩ => ⟨a, L, cs, by rw [ev], h1, h2, fun us p hu hn hp => q p _ (e2.back hp) (e2.tr (Ex.new hp)) ⟨us, upd_same, by
    rw [← sset_of hn h3]
    exact paired_map hu fun _ _ z => en_up (Ex.new hp) z⟩⟩
theorem q_asg4 {i j k l : Nat} {x : Paper} {u : TS} {D : Ends} (h : EvP ta s H (en x)) (kk : ∀ u1 u2 u3 u4 H1, Ex H H1 → En H1 u1 x.s → En H1 u2 x.e → En H1 u3 x.sup → En H1 u4 x.wit → u D ((((s.set i (some u1)).set j (some u2)).set k (some u3)).set l (some u4)) H1) :
    tSeq (tAsg ta (gTup K 4 (gCons (gName i) (gCons (gName j) (gCons (gName k) (gCons (gName l) gNil)))))) u D s H :=
  h H Ex.same _ fun v H1 e1 hv => by
    obtain ⟨a, u1, u2, u3, u4, rfl, h0, h1, h2, h3, h4⟩ := hv
    exact ⟨a, [u1, u2, u3, u4], rfl, .inl (.inl h0), rfl, u1, _, rfl, u2, _, rfl, u3, _, rfl, u4, _, rfl, rfl, kk u1 u2 u3 u4 H1 e1 h1 h2 h3 h4⟩
theorem ev_pa {x : Paper} {i : Int} {P' : Pd} (ha : EvP ta s H (en x)) (h : (i = 0 ∧ P' = en x.s) ∨ (i = 1 ∧ P' = en x.e) ∨ (i = 2 ∧ P' = en x.sup) ∨ (i = 3 ∧ P' = en x.wit)) : EvP (tOp (rIxT K) ta (tC (.int i))) s H P' := fun H1 e Q q =>
  ha H1 e _ fun v H2 e2 hv => by
    obtain ⟨p, u1, u2, u3, u4, rfl, h0, h1, h2, h3, h4⟩ := hv
    rcases h with ⟨rfl, rfl⟩ | ⟨rfl, rfl⟩ | ⟨rfl, rfl⟩ | ⟨rfl, rfl⟩
    · exact ⟨p, _, 0, u1, rfl, rfl, .inl (.inl h0), rfl, q _ H2 e2 h1⟩
    · exact ⟨p, _, 1, u2, rfl, rfl, .inl (.inl h0), rfl, q _ H2 e2 h2⟩
    · exact ⟨p, _, 2, u3, rfl, rfl, .inl (.inl h0), rfl, q _ H2 e2 h3⟩
    · exact ⟨p, _, 3, u4, rfl, rfl, .inl (.inl h0), rfl, q _ H2 e2 h4⟩
end
/-- what a step reads -/
def cellsOf (p : Paper) : List Cell := [p.s, p.e] ++ nbs p.s ++ p.sup ++ p.wit
def tied (a b : Paper) : Bool := (memB a.s (cellsOf b) || memB a.e (cellsOf b)) || (memB b.s (cellsOf a) || memB b.e (cellsOf a))
def smallP (p : Paper) : Prop := p.sup.length + p.wit.length ≤ 50
def tiesOf (ps : List Paper) : List (Int × Int) := (rng 0 ps.length).flatMap fun i => ((rng (i + 1) (ps.length - (i + 1)).toNat).filter fun j => match ps[i.toNat]?, ps[j.toNat]? with
  | some a, some b => tied a b
  | _, _ => false).map fun j => (i, j)
section
variable {P : Program} {w : World} {K : PySem.W.Frag} {mg : Str → Option Value} {base : Heap}
def spReads : Sp := S1W fun P1 Pz => ∃ p : Paper, P1 = en p ∧ smallP p ∧ Pz = li (sset (cellsOf p))
def spTied : Sp := S2 fun P1 P2 Pz => ∃ p r : Paper, P1 = en p ∧ P2 = en r ∧ smallP p ∧ smallP r ∧ Pz = en (tied p r)
def spTies : Sp := S1W fun P1 Pz => ∃ ps : List Paper, P1 = li ps ∧ ps.length ≤ 100 ∧ (∀ p, p ∈ ps → smallP p) ∧ Pz = li (tiesOf ps)
end
end TB
set_option Elab.async false
set_option linter.all false
set_option maxRecDepth 100000
set_option maxHeartbeats 2000000
/-! D8: the pen. -/
namespace TB
open PySem PySem.Spec PyProof.Rows L2
def penK (c : Addr) (a g k f : Int) : List (Key × V) := [(.inr "cells", .ref c), (.inr "at", .int a), (.inr "digits", .int g), (.inr "count", .int k), (.inr "fold", .int f)]
theorem pk_cells (c : Addr) (a g k f : Int) : valV (penK c a g k f) (.inr "cells") = some (.ref c) := by rfl
theorem pk_at (c : Addr) (a g k f : Int) : valV (penK c a g k f) (.inr "at") = some (.int a) := by rfl
theorem pk_dig (c : Addr) (a g k f : Int) : valV (penK c a g k f) (.inr "digits") = some (.int g) := by rfl
theorem pk_cnt (c : Addr) (a g k f : Int) : valV (penK c a g k f) (.inr "count") = some (.int k) := by rfl
theorem pk_fold (c : Addr) (a g k f : Int) : valV (penK c a g k f) (.inr "fold") = some (.int f) := by rfl
theorem pp_at (c : Addr) (a g k f x : Int) : putK (penK c a g k f) (.inr "at") (.int x) = penK c x g k f := by rfl
theorem pp_dig (c : Addr) (a g k f x : Int) : putK (penK c a g k f) (.inr "digits") (.int x) = penK c a x k f := by rfl
theorem pp_cnt (c : Addr) (a g k f x : Int) : putK (penK c a g k f) (.inr "count") (.int x) = penK c a g x f := by rfl
theorem pp_fold (c : Addr) (a g k f x : Int) : putK (penK c a g k f) (.inr "fold") (.int x) = penK c a g k x := by rfl
/-- the pen at d; at most n numbers were drawn -/
def PenAt (H : Hp) (d c : Addr) (n : Nat) : Prop := ∃ (xs : List Int) (a g k f : Int), H d = some (.dK (penK c a g k f)) ∧ Ls H c xs ∧ 0 ≤ a ∧ 0 ≤ g ∧ 0 ≤ k ∧ k ≤ n ∧ 0 ≤ f ∧ f < 2147483587
theorem PenAt.up {H H' : Hp} {d c : Addr} {n : Nat} (h : PenAt H d c n) (e : Ex H H') : PenAt H' d c n := by
  obtain ⟨xs, a, g, k, f, h1, h2, r⟩ := h
  exact ⟨xs, a, g, k, f, e _ _ h1, h2.up e, r⟩
theorem PenAt.more {H : Hp} {d c : Addr} {n m : Nat} (h : PenAt H d c n) (e : n ≤ m) : PenAt H d c m := by
  obtain ⟨xs, a, g, k, f, h1, h2, h3, h4, h5, h6, r⟩ := h
  exact ⟨xs, a, g, k, f, h1, h2, h3, h4, h5, by omega, r⟩
theorem PenAt.nn {H : Hp} {d c : Addr} {n : Nat} (h : PenAt H d c n) : H d ≠ none := by
  obtain ⟨xs, a, g, k, f, h1, _⟩ := h
  rw [h1]
  exact fun z => by cases z
theorem PenAt.nnc {H : Hp} {d c : Addr} {n : Nat} (h : PenAt H d c n) : H c ≠ none := by
  obtain ⟨xs, a, g, k, f, h1, ⟨us, h2, _⟩, _⟩ := h
  rw [h2]
  exact fun z => by cases z
/-- what is new is no part of the pen -/
theorem PenAt.new {H : Hp} {d c p : Addr} {n : Nat} (h : PenAt H d c n) (hp : H p = none) : d ≠ p ∧ c ≠ p := ⟨fun e => h.nn (by rw [e]; exact hp), fun e => h.nnc (by rw [e]; exact hp)⟩
theorem PenAt.mv {S : List Addr} {H H' : Hp} {d c : Addr} {n : Nat} (h : PenAt H d c n) (m : Mv S H H') (hd : d ∉ S) (hc : c ∉ S) : PenAt H' d c n := by
  obtain ⟨xs, a, g, k, f, h1, h2, r⟩ := h
  exact ⟨xs, a, g, k, f, m.ch _ _ hd h1, h2.mv hc m, r⟩
theorem PenAt.but {H H' : Hp} {d c p : Addr} {n : Nat} (h : PenAt H d c n) (b : Bt p H H') (hp : d ≠ p ∧ c ≠ p) : PenAt H' d c n := by
  obtain ⟨xs, a, g, k, f, h1, h2, r⟩ := h
  exact ⟨xs, a, g, k, f, by rw [b.ne d hp.1]; exact h1, h2.but hp.2 b, r⟩
theorem PenAt.ne {α : Type} [DecidableEq α] [Enc α] {H : Hp} {d c p : Addr} {n : Nat} {xs : List α} (h : PenAt H d c n) (hp : Ls H p xs) : p ≠ d := by
  obtain ⟨_, a, g, k, f, h1, _⟩ := h
  obtain ⟨us, h2, _⟩ := hp
  intro e
  rw [e, h1] at h2
  cases h2
theorem PenAt.neD {β : Type} [DecidableEq β] [Enc β] {H : Hp} {d c p : Addr} {n : Nat} {xs : List (Cell × β)} (h : PenAt H d c n) (hp : Dc H p xs) : p ≠ d ∧ p ≠ c := by
  obtain ⟨_, a, g, k, f, h1, ⟨ws, h3, _⟩, _⟩ := h
  obtain ⟨us, h2, _⟩ := hp
  refine ⟨fun e => ?_, fun e => ?_⟩
  · rw [e, h1] at h2
    cases h2
  · rw [e, h3] at h2
    cases h2
section
variable {s : TSt} {H : Hp} {td ty tv : TE} {D : Ends} {u : TS}
theorem ev_pget {d : Addr} {kvs : List (Key × V)} {k : Key} {v : V} {P : Pd} (hp : H d = some (.dK kvs)) (hd : EvP td s H (va (.ref d))) (hk : EvP ty s H (va (kV k))) (hv : valV kvs k = some v) (h : P.p H v) : EvP (tDGet td ty) s H P := fun H1 e Q q =>
  hd H1 e _ fun w H2 e2 hw => hk H2 (e.tr e2) _ fun z H3 e3 hz => by
    obtain rfl : w = .ref d := hw
    obtain rfl : z = kV k := hz
    exact ⟨d, v, rfl, hv ▸ DGet.k (((e.tr e2).tr e3) _ _ hp), q _ H3 (e2.tr e3) (P.up ((e.tr e2).tr e3) h)⟩
theorem s_pput {d : Addr} {kvs kvs' : List (Key × V)} {k : Key} {x : Int} (hp : H d = some (.dK kvs)) (hv : EvP tv s H (en x)) (hd : EvP td s H (va (.ref d))) (hk : EvP ty s H (va (kV k))) (hl : kvs.length < 1000) (e : putK kvs k (.int x) = kvs')
    (kk : ∀ H1, Ex H H1 → ∀ H2, Bt d H1 H2 → H2 d = some (.dK kvs') → D.nx s H2) : sDPut td ty tv D s H := hv H Ex.same _ fun v H1 e1 hv => hd H1 e1 _ fun w H2 e2 hw => hk H2 (e1.tr e2) _ fun z H3 e3 hz => by
  obtain rfl : w = .ref d := hw
  obtain rfl : z = kV k := hz
  obtain rfl : v = .int x := hv
  have h3 := ((e1.tr e2).tr e3) _ _ hp
  subst e
  exact ⟨d, _, rfl, DPut.k h3 (sz_lt (by omega)), kk H3 ((e1.tr e2).tr e3) _ ⟨Tu.mutK h3, fun q hq => upd_ne hq⟩ upd_same⟩
theorem q_pput {d : Addr} {kvs kvs' : List (Key × V)} {k : Key} {x : Int} (hp : H d = some (.dK kvs)) (hv : EvP tv s H (en x)) (hd : EvP td s H (va (.ref d))) (hk : EvP ty s H (va (kV k))) (hl : kvs.length < 1000) (e : putK kvs k (.int x) = kvs')
    (kk : ∀ H1, Ex H H1 → ∀ H2, Bt d H1 H2 → H2 d = some (.dK kvs') → u D s H2) : tSeq (sDPut td ty tv) u D s H := s_pput hp hv hd hk hl e kk
theorem ev_intf {i : Int} {r : List V → Hp → VK → Prop} (hr : r = fun xs H Q => (∃ i, xs = [V.int i] ∧ Q (.int i) H) ∨ ∃ k, xs = [V.bl k] ∧ Q (.int (if k then 1 else 0)) H) (h : EvP tv s H (en i)) : EvP (tCB r (tCons tv tNil)) s H (en i) := fun H1 e Q q =>
  h H1 e _ fun v H2 e2 hv => by
    obtain rfl : v = .int i := hv
    subst hr
    exact .inl ⟨i, rfl, q _ H2 e2 rfl⟩
end
/-- a number below m -/
def spDraw : Sp := fun vs H Q _ => ∃ (d c : Addr) (n : Nat) (m : Int), vs = [.ref d, .int m] ∧ PenAt H d c n ∧ n < 1000000000 ∧ 0 < m ∧ m < 1000000 ∧ ∀ x H', 0 ≤ x → x < m → Mv [d] H H' → PenAt H' d c (n + 1) → Q (.int x) H'
theorem spDraw_len {x y : Str} : ∀ vs H Q E, spDraw vs H Q E → vs.length = [x, y].length := fun vs H Q E ⟨d, c, n, m, e, _⟩ => by
  subst e
  rfl
section
variable {P : Program} {w : World} {K : PySem.W.Frag} {mg : Str → Option Value} {base : Heap}
abbrev s_law_draw : Stmt := topS 36
abbrev n_law_draw : List Str := ["_law_pen_here", "_law_many", "_law_cell", "_law_digit", "_law_blend"]
theorem sc_law_draw : FnScope n_law_draw ["_law_pen_here", "_law_many"] (defScope s_law_draw) := ⟨rfl, rfl, rfl, by decide +kernel, rfl, by decide +kernel, by decide +kernel⟩
theorem ok_law_draw (T : Txt K mg "_law_draw" "_law_draw" s_law_draw ["_law_pen_here", "_law_many"]) (Z : Blt mg) : Cal P w K mg base 1 "_law_draw" ["_law_pen_here", "_law_many"] spDraw :=
  T.cal sc_law_draw spDraw_len fun f cdv A outer s H vs Q E hr h => by
    obtain ⟨d, c, n, m, rfl, ⟨xs, a, g, k, fo, hd, hc, ha, hg, hk, hkn, hf, hf2⟩, hn, hm, hm2, q⟩ := h
    refine ⟨_, (pss_cons (ps_dput (ru1 hr) (pv 0) pe_str (pe_op op_add (pe_dget (ru1 hr) (pv 0) pe_str (fun _ _ => rfl)) pe_int) rfl)
      (pss_cons (ps_if (PW.pt (pw_and (pt_cmpR op_eq (pe_dget (ru1 hr) (pv 0) pe_str (fun _ _ => rfl)) pe_int (nomark _)) (pw_and1 (pt_cmpR op_lt (pe_dget (ru1 hr) (pv 0) pe_str (fun _ _ => rfl)) (pe_callB call_len_seq (by rfl) Z.len (by decide +kernel) (pa_cons (pe_dget (ru1 hr) (pv 0) pe_str (fun _ _ => rfl)) pa_nil)) (nomark _))))) (pss_cons (ps_set (i := 2) sc_law_draw.nd rfl (Or.inl rfl) (pe_ix ix_list (pe_dget (ru1 hr) (pv 0) pe_str (fun _ _ => rfl)) (pe_dget (ru1 hr) (pv 0) pe_str (fun _ _ => rfl)) (fun _ _ => rfl)))
      (pss_cons (ps_dput (ru1 hr) (pv 0) pe_str (pe_op op_add (pe_dget (ru1 hr) (pv 0) pe_str (fun _ _ => rfl)) pe_int) rfl)
      (pss_one (ps_if (pt_cmpR op_ge (pv 2) (pe_op op_pow pe_int pe_int) (nomark _)) (pss_one (ps_dput (ru1 hr) (pv 0) pe_str (pe_op op_sub (pv 2) (pe_op op_pow pe_int pe_int)) rfl)) (pss_one (ps_dput (ru1 hr) (pv 0) pe_str (pe_op op_mod (pe_callTy call_int1 (by rfl) Z.int (by decide +kernel) (pa_cons (pe_op op_add (pe_op op_mul (pe_dget (ru1 hr) (pv 0) pe_str (fun _ _ => rfl)) pe_int) (pv 2)) pa_nil)) pe_int) rfl)))))) pss_nil)
      (pss_cons (ps_if (pt_cmpR op_gt (pe_dget (ru1 hr) (pv 0) pe_str (fun _ _ => rfl)) pe_int (nomark _)) (pss_cons (ps_set (i := 3) sc_law_draw.nd rfl (Or.inl rfl) (pe_op op_mod (pe_callTy call_int1 (by rfl) Z.int (by decide +kernel) (pa_cons (pe_dget (ru1 hr) (pv 0) pe_str (fun _ _ => rfl)) pa_nil)) (pv 1)))
      (pss_cons (ps_dput (ru1 hr) (pv 0) pe_str (pe_op op_fdiv (pe_dget (ru1 hr) (pv 0) pe_str (fun _ _ => rfl)) (pv 1)) rfl)
      (pss_one (ps_ret (pv 3))))) pss_nil)
      (pss_cons (ps_set (i := 4) sc_law_draw.nd rfl (Or.inl rfl) (pe_op op_add (pe_op op_add (pe_dget (ru1 hr) (pv 0) pe_str (fun _ _ => rfl)) (pe_op op_mul (pe_dget (ru1 hr) (pv 0) pe_str (fun _ _ => rfl)) pe_int)) pe_int))
      (pss_one (ps_ret (pe_op op_mod (pe_op op_fdiv (pe_callTy call_int1 (by rfl) Z.int (by decide +kernel) (pa_cons (pe_op op_mod (pe_op op_pow (pv 4) pe_int) pe_int) pa_nil)) pe_int) (pv 1)))))))), ?_⟩
    have hcd : c ≠ d := fun e => by
      obtain ⟨us, h1, _⟩ := hc
      rw [e, hd] at h1
      cases h1
    refine q_pput (x := k + 1) hd (ev_I (ev_pget (P := en k) hd (ev_vr rfl) ev_va (pk_cnt c a g k fo) rfl) ev_int) (ev_vr rfl) ev_va (Nat.le_of_ble_eq_true rfl) (pp_cnt c a g k fo _) fun H1 e1 H2 b2 hd2 => ?_
    have m2 : Mv [d] H H2 := (Mv.same.ex e1).but b2 (.inl List.mem_cons_self)
    refine q_with (fun s' H' => ∃ v2 a g fo, s' = [some (.ref d), some (.int m), v2, none, none] ∧ Mv [d] H H' ∧ H' d = some (.dK (penK c a g (k + 1) fo)) ∧ 0 ≤ a ∧ 0 ≤ g ∧ 0 ≤ fo ∧ fo < 2147483587) (fun s' H' ⟨v2, a, g, fo, es, mm, hd', ha, hg, hf, hf2⟩ => ?_) fun fin => ?_
    · subst es
      have pen : ∀ {a g fo : Int} {H'' : Hp}, Mv [d] H H'' → H'' d = some (.dK (penK c a g (k + 1) fo)) → 0 ≤ a → 0 ≤ g → 0 ≤ fo → fo < 2147483587 → PenAt H'' d c (n + 1) := fun mm h1 h2 h3 h4 h5 =>
        ⟨xs, _, _, _, _, h1, hc.mv (mem1 hcd) mm, h2, h3, by omega, by omega, h4, h5⟩
      refine q_ifN (eb_test (ev_C (ev_pget (P := en g) hd' (ev_vr rfl) ev_va (pk_dig c a g (k + 1) fo) rfl) ev_int)) (fun hb H3 e3 => ?_) fun hb H3 e3 => ?_
      · refine q_asg (P := en (g % m)) (ev_Ic (ev_intf rfl (ev_pget (P := en g) (e3 _ _ hd') (ev_vr rfl) ev_va (pk_dig c a g (k + 1) fo) rfl)) (ev_var rfl rfl) hm) fun v H4 e4 hv => ?_
        refine q_pput (x := g / m) ((e3.tr e4) _ _ hd') (ev_Ic (ev_pget (P := en g) ((e3.tr e4) _ _ hd') (ev_vr rfl) ev_va (pk_dig c a g (k + 1) fo) rfl) (ev_var rfl rfl) ⟨hm, by omega⟩) (ev_vr rfl) ev_va (Nat.le_of_ble_eq_true rfl) (pp_dig c a g (k + 1) fo _) fun H5 e5 H6 b6 hd6 => ?_
        refine s_ret (P := en (g % m)) (ev_var rfl hv) fun v H7 e7 hv => ?_
        obtain rfl : v = .int (g % m) := hv
        have mm7 := ((((mm.ex e3).ex e4).ex e5).but b6 (.inl List.mem_cons_self)).ex e7
        exact q _ H7 (Int.emod_nonneg _ (by omega)) (Int.emod_lt_of_pos _ hm) mm7 (pen mm7 (e7 _ _ hd6) ha (Int.ediv_nonneg hg (by omega)) hf hf2)
      · refine q_asg (P := en (fo + (k + 1) * 7907 + 37)) (ev_I (ev_I (ev_pget (P := en fo) (e3 _ _ hd') (ev_vr rfl) ev_va (pk_fold c a g (k + 1) fo) rfl) (ev_Ic (ev_pget (P := en (k + 1)) (e3 _ _ hd') (ev_vr rfl) ev_va (pk_cnt c a g (k + 1) fo) rfl) ev_int (.inr (by decide)))) ev_int) fun v H4 e4 hv => ?_
        refine s_ret (P := en ((fo + (k + 1) * 7907 + 37) ^ (17 : Int).toNat % 2305843009213693951 / 128 % m)) (ev_Ic (ev_Ic (ev_intf rfl (ev_Ic (ev_Ic (ev_var rfl hv) ev_int ⟨by decide, by decide, ?_⟩) ev_int (by decide))) ev_int ⟨by decide, by decide⟩) (ev_var rfl rfl) hm) fun v H7 e7 hv => ?_
        · have : (2 : Nat) ^ 64 = 18446744073709551616 := by decide
          rw [this]
          omega
        · obtain rfl : v = .int _ := hv
          have mm7 := ((mm.ex e3).ex e4).ex e7
          exact q _ H7 (Int.emod_nonneg _ (by omega)) (Int.emod_lt_of_pos _ hm) mm7 (pen mm7 (((e3.tr e4).tr e7) _ _ hd') ha hg hf hf2)
    · have hc2 := hc.mv (mem1 hcd) m2
      refine q_ifN (eb_and (eb_test (ev_eqI (ev_pget (P := en g) hd2 (ev_vr rfl) ev_va (pk_dig c a g (k + 1) fo) rfl) ev_int)) fun _ => eb_test (ev_C (ev_pget (P := en a) hd2 (ev_vr rfl) ev_va (pk_at c a g (k + 1) fo) rfl) (ev_len rfl (ev_pget (P := li xs) hd2 (ev_vr rfl) ev_va (pk_cells c a g (k + 1) fo) ⟨c, rfl, hc2⟩)))) (fun hb H3 e3 => ?_) fun hb H3 e3 => fin _ _ ⟨_, a, g, fo, rfl, m2.ex e3, e3 _ _ hd2, ha, hg, hf, hf2⟩
      rw [Bool.and_eq_true] at hb
      have hlt := of_decide_eq_true hb.2
      obtain ⟨an, rfl⟩ : ∃ an : Nat, a = (an : Int) := ⟨a.toNat, by omega⟩
      obtain ⟨y, hy⟩ : ∃ y, xs[an]? = some y := ⟨_, List.getElem?_eq_getElem (by omega)⟩
      refine q_asg (P := en y) (ev_ixL (ev_pget (P := li xs) (e3 _ _ hd2) (ev_vr rfl) ev_va (pk_cells c an g (k + 1) fo) ⟨c, rfl, hc2.up e3⟩) (ev_pget (P := en (an : Int)) (e3 _ _ hd2) (ev_vr rfl) ev_va (pk_at c an g (k + 1) fo) rfl) (atI_nat hy)) fun v H4 e4 hv => ?_
      refine q_pput (x := (an : Int) + 1) ((e3.tr e4) _ _ hd2) (ev_I (ev_pget (P := en (an : Int)) ((e3.tr e4) _ _ hd2) (ev_vr rfl) ev_va (pk_at c an g (k + 1) fo) rfl) ev_int) (ev_vr rfl) ev_va (Nat.le_of_ble_eq_true rfl) (pp_at c an g (k + 1) fo _) fun H5 e5 H6 b6 hd6 => ?_
      obtain rfl : v = .int y := hv
      have mm6 := (((m2.ex e3).ex e4).ex e5).but b6 (.inl List.mem_cons_self)
      refine s_if (eb_test (ev_C (i := y) (ev_var rfl rfl) (ev_Ic ev_int ev_int ⟨by decide, by decide, by decide⟩))) (fun hb H7 e7 => ?_) fun hb H7 e7 => ?_
      · refine s_pput (x := y - 10 ^ (18 : Int).toNat) (e7 _ _ hd6) (ev_I (i := y) (ev_var rfl rfl) (ev_Ic ev_int ev_int ⟨by decide, by decide, by decide⟩)) (ev_vr rfl) ev_va (Nat.le_of_ble_eq_true rfl) (pp_dig c (an + 1) g (k + 1) fo _) fun H8 e8 H9 b9 hd9 => ?_
        refine fin _ _ ⟨_, _, _, _, rfl, ((mm6.ex e7).ex e8).but b9 (.inl List.mem_cons_self), hd9, by omega, ?_, hf, hf2⟩
        have h1 := of_decide_eq_true hb
        have h2 : (10 : Int) ^ (18 : Int).toNat = 1000000000000000000 := by decide
        omega
      · refine s_pput (x := (fo * 69069 + y) % 2147483587) (e7 _ _ hd6) (ev_Ic (ev_intf rfl (ev_I (ev_Ic (ev_pget (P := en fo) (e7 _ _ hd6) (ev_vr rfl) ev_va (pk_fold c (an + 1) g (k + 1) fo) rfl) ev_int (.inr (by decide))) (j := y) (ev_var rfl rfl))) ev_int (by decide)) (ev_vr rfl) ev_va (Nat.le_of_ble_eq_true rfl) (pp_fold c (an + 1) g (k + 1) fo _) fun H8 e8 H9 b9 hd9 => ?_
        exact fin _ _ ⟨_, _, _, _, rfl, ((mm6.ex e7).ex e8).but b9 (.inl List.mem_cons_self), hd9, by omega, hg, Int.emod_nonneg _ (by decide), Int.emod_lt_of_pos _ (by decide)⟩
end
end TB
set_option Elab.async false
set_option linter.all false
set_option maxRecDepth 100000
set_option maxHeartbeats 2000000
/-! D9: pick, pen, shuffled, way. -/
namespace TB
open PySem PySem.Spec PyProof.Rows L2
/-- one of the items -/
def spPick : Sp := fun vs H Q _ => ∃ (α : Type) (_ : DecidableEq α) (_ : Enc α) (xs : List α) (d c : Addr) (n : Nat) (v2 : V), vs = [.ref d, v2] ∧ PenAt H d c n ∧ n < 1000000000 ∧ (li xs).p H v2 ∧ xs ≠ [] ∧ xs.length < 1000000 ∧ ∀ x u H', x ∈ xs → Mv [d] H H' → PenAt H' d c (n + 1) → Enc.r H' u x → Q u H'
theorem spPick_len {x y : Str} : ∀ vs H Q E, spPick vs H Q E → vs.length = [x, y].length := fun vs H Q E ⟨_, _, _, _, _, _, _, _, e, _⟩ => by
  subst e
  rfl
/-- all the items, in some order -/
def spShuffled : Sp := fun vs H Q _ => ∃ (α : Type) (_ : DecidableEq α) (_ : Enc α) (xs : List α) (d c : Addr) (n : Nat) (v2 : V), vs = [.ref d, v2] ∧ PenAt H d c n ∧ n + xs.length < 1000000000 ∧ (li xs).p H v2 ∧ xs.length < 1000 ∧ ∀ ys p H', ys.Perm xs → H p = none → Mv [d] H H' → PenAt H' d c (n + xs.length) → Ls H' p ys → Q (.ref p) H'
theorem spShuffled_len {x y : Str} : ∀ vs H Q E, spShuffled vs H Q E → vs.length = [x, y].length := fun vs H Q E ⟨_, _, _, _, _, _, _, _, e, _⟩ => by
  subst e
  rfl
def spPen (K : PySem.W.Frag) : Sp := fun vs H Q _ => ∃ (a : Addr) (xs : List Int), vs = [.ref a] ∧ SqL K H a (xs.map V.int) ∧ xs.length ≤ 1000 ∧ ∀ d c H', H d = none → Ex H H' → PenAt H' d c 0 → Q (.ref d) H'
theorem cut_take {α : Type} [DecidableEq α] [Enc α] {xs : List α} {k : Nat} (h : k ≤ xs.length) : cut xs none (some (k : Int)) = xs.take k := by
  unfold cut
  rw [HT.sIx_nat, HT.sIx_none, Nat.min_eq_left h, Nat.sub_zero]
  rfl
theorem cut_drop {α : Type} [DecidableEq α] [Enc α] {xs : List α} {k : Nat} (h : k ≤ xs.length) : cut xs (some (k : Int)) none = xs.drop k := by
  unfold cut
  rw [HT.sIx_nat, HT.sIx_none, Nat.min_eq_left h]
  exact List.take_of_length_le (by rw [List.length_drop]; exact Nat.le_refl _)
/-- squares, each beside one before it -/
inductive Grow : List Cell → Prop where
  | one : Grow [(0, 0)]
  | more {cs : List Cell} {x y : Cell} (h : Grow cs) (hx : x ∈ cs) (hy : y ∈ nbs x ∨ y ∈ cs) : Grow (cs ++ [y])
theorem Grow.ne {cs : List Cell} (h : Grow cs) : cs ≠ [] := by
  cases h with
  | one => exact List.cons_ne_nil _ _
  | more => exact List.append_ne_nil_of_right_ne_nil _ (List.cons_ne_nil _ _)
theorem Grow.take {cs : List Cell} (h : Grow cs) : ∀ {n : Nat}, 1 ≤ n → Grow (cs.take n) := by
  induction h with
  | one =>
    intro n hn
    rw [List.take_of_length_le (by simpa using hn)]
    exact .one
  | @more cs x y h hx hy ih =>
    intro n hn
    by_cases e : n ≤ cs.length
    · rw [List.take_append_of_le_length e]
      exact ih hn
    · rw [List.take_of_length_le (by rw [List.length_append, List.length_singleton]; omega)]
      exact .more h hx hy
section
variable {P : Program} {w : World} {K : PySem.W.Frag} {mg : Str → Option Value} {base : Heap}
abbrev s_law_pick : Stmt := topS 37
abbrev n_law_pick : List Str := ["_law_pen_here", "_law_some"]
theorem sc_law_pick : FnScope n_law_pick ["_law_pen_here", "_law_some"] (defScope s_law_pick) := ⟨rfl, rfl, rfl, by decide +kernel, rfl, by decide +kernel, by decide +kernel⟩
theorem ok_law_pick (T : Txt K mg "_law_pick" "_law_pick" s_law_pick ["_law_pen_here", "_law_some"]) (Z : Blt mg) (C_law_draw : Cal P w K mg base 1 "_law_draw" ["_law_pen_here", "_law_many"] spDraw) : Cal P w K mg base 2 "_law_pick" ["_law_pen_here", "_law_some"] spPick :=
  T.cal sc_law_pick spPick_len fun f cdv A outer s H vs Q E hr h => by
    obtain ⟨α, i1, i2, xs, d, c, n, v2, rfl, hp, hn, ⟨a, rfl, ha⟩, hne, hlen, q⟩ := h
    refine ⟨_, (pss_one (ps_ret (pe_ix ix_list (pv 1) (pe_cal C_law_draw (hr.mono (by decide)) (pa_cons (pv 0) (pa_cons (pe_callB call_len_seq (by rfl) Z.len (by decide +kernel) (pa_cons (pv 1) pa_nil)) pa_nil))) (fun _ _ => rfl)))), ?_⟩
    refine ⟨.ref a, rfl, .ref d, rfl, ev_len (K := K) (xs := xs) rfl (ev_li rfl ha) H Ex.same _ fun w H1 e1 hw => ?_⟩
    obtain rfl : w = .int (xs.length : Int) := hw
    have hpos : 0 < xs.length := List.length_pos_iff.mpr hne
    refine ⟨d, c, n, xs.length, rfl, hp.up e1, hn, by omega, by omega, fun k H2 k0 k1 m2 p2 => ?_⟩
    obtain ⟨kn, rfl⟩ : ∃ kn : Nat, k = (kn : Int) := ⟨k.toNat, by omega⟩
    obtain ⟨y, hy⟩ : ∃ y, xs[kn]? = some y := ⟨_, List.getElem?_eq_getElem (by omega)⟩
    have hl2 := (ha.up e1).mv (mem1 (hp.ne ha)) m2
    obtain ⟨us, g1, g2⟩ := hl2
    obtain ⟨u, g3, g4⟩ := paired_get g2 hy
    exact ⟨a, us, kn, u, rfl, rfl, .inl (.inl g1), atI_nat g3, q y u H2 (List.mem_of_getElem? hy) ((Mv.same.ex e1).tr m2) p2 g4⟩
abbrev s_law_pen : Stmt := topS 35
abbrev n_law_pen : List Str := ["_law_script", "_law_fold", "_law_cell"]
theorem sc_law_pen : FnScope n_law_pen ["_law_script"] (defScope s_law_pen) := ⟨rfl, rfl, rfl, by decide +kernel, rfl, by decide +kernel, by decide +kernel⟩
theorem ok_law_pen (T : Txt K mg "_law_pen" "_law_pen" s_law_pen ["_law_script"]) (Z : Blt mg) : Cal P w K mg base 1 "_law_pen" ["_law_script"] (spPen K) :=
  T.cal sc_law_pen (fun vs H Q E ⟨a, xs, e, _⟩ => by subst e; rfl) fun f cdv A outer s H vs Q E hr h => by
    obtain ⟨a, xs, rfl, hS, hlen, q⟩ := h
    refine ⟨_, (pss_cons (ps_set (i := 1) sc_law_pen.nd rfl (Or.inl rfl) pe_int)
      (pss_cons (ps_for PassesOwn.never rfl (pi_list (pv 0)) (pg_name (i := 2) sc_law_pen.nd rfl (Or.inl rfl)) (pss_one (ps_set (i := 1) sc_law_pen.nd rfl (Or.inl rfl) (pe_op op_mod (pe_callTy call_int1 (by rfl) Z.int (by decide +kernel) (pa_cons (pe_op op_add (pe_op op_mul (pv 1) pe_int) (pv 2)) pa_nil)) pe_int))))
      (pss_one (ps_ret (pe_disp (pps_cons pe_str (pe_callTy call_list_of (by rfl) Z.list (by decide +kernel) (pa_cons (pv 0) pa_nil)) (pps_cons pe_str pe_int (pps_cons pe_str pe_int (pps_cons pe_str pe_int (pps_cons pe_str (pv 1) pps_nil))))) (by rfl) (by rfl) (fun z => by cases z) (by decide)))))), ?_⟩
    refine q_asg (P := en (0 : Int)) ev_int fun v H1 e1 hv => ?_
    obtain rfl : v = .int 0 := hv
    have sq : ∀ {H'}, Ex H H' → SqL K H' a (xs.map V.int) := fun e => Same.seq e hS
    refine ⟨.ref a, rfl, a, rfl, ⟨_, sq e1⟩, for_list (xs := xs.map V.int) (fun i s' H' => ∃ (fo : Int) (v2 : Option V), s' = [some (.ref a), some (.int fo), v2] ∧ Ex H H' ∧ 0 ≤ fo ∧ fo < 1000000007) ⟨0, _, rfl, e1, by decide, by decide⟩ (fun i s' H' _ ⟨_, _, _, e, _⟩ => sq e) (fun i u s' H' hu ⟨fo, v2, es, e, f1, f2⟩ => ?_) fun s' H' ⟨fo, v2, es, e, f1, f2⟩ => ?_⟩
    · subst es
      rw [List.getElem?_map] at hu
      obtain ⟨x, hx, rfl⟩ := Option.map_eq_some_iff.mp hu
      refine s_asg (P := en ((fo * 41 + x) % 1000000007)) (ev_Ic (ev_intf rfl (ev_I (ev_Ic (i := fo) (ev_var rfl rfl) ev_int (.inr (by decide))) (j := x) (ev_var rfl rfl))) ev_int (by decide)) fun v H2 e2 hv => ?_
      obtain rfl : v = .int _ := hv
      exact ⟨_, _, rfl, e.tr e2, Int.emod_nonneg _ (by decide), Int.emod_lt_of_pos _ (by decide)⟩
    · subst es
      intro d hd
      refine ⟨.ref a, rfl, a, _, rfl, .inl (Same.seq (Ex.new hd) (sq e)), fun c hc => ?_⟩
      have hcd : c ≠ d := fun z => by
        rw [z, upd_same] at hc
        cases hc
      refine ⟨.int fo, rfl, by rw [upd_ne hcd.symm, upd_same], penK c 0 0 0 fo, rfl, (Nat.le_of_ble_eq_true rfl), ?_⟩
      rw [show mergeK [] (penK c 0 0 0 fo) = penK c 0 0 0 fo from rfl]
      have hdH : H d = none := e.back hd
      refine q d c _ hdH (((e.tr (Ex.new hd)).tr (Ex.new hc)).mut hdH) ⟨xs, 0, 0, 0, fo, upd_same, ⟨xs.map V.int, ?_, ?_⟩, by decide, by decide, by decide, by decide, f1, by omega⟩
      · rw [upd_ne hcd, upd_same]
      · clear hS sq
        induction xs with
        | nil => exact .nil
        | cons x r ih => exact .cons rfl (ih (by simp only [List.length_cons] at hlen; omega))
end
end TB
set_option Elab.async false
set_option linter.all false
set_option maxRecDepth 100000
set_option maxHeartbeats 2000000
/-! D10: way, blob. -/
namespace TB
open PySem PySem.Spec PyProof.Rows L2
theorem top_cell : ∀ {cs : List Cell}, cs ≠ [] → ∃ y, y ∈ cs ∧ ∀ x, x ∈ cs → x.1 ≤ y.1
  | [], h => absurd rfl h
  | [c], _ => ⟨c, List.mem_cons_self, fun x hx => by rw [List.mem_singleton.mp hx]; exact Int.le_refl _⟩
  | c :: e :: r, _ => by
    obtain ⟨y, hy, h⟩ := top_cell (cs := e :: r) (List.cons_ne_nil _ _)
    by_cases q : y.1 ≤ c.1
    · refine ⟨c, List.mem_cons_self, fun x hx => ?_⟩
      rcases List.mem_cons.mp hx with z | z
      · rw [z]
        exact Int.le_refl _
      · exact Int.le_trans (h x z) q
    · refine ⟨y, List.mem_cons_of_mem _ hy, fun x hx => ?_⟩
      rcases List.mem_cons.mp hx with z | z
      · rw [z]
        omega
      · exact h x z
/-- some square beside them is free -/
theorem edge_cell {cs : List Cell} (h : cs ≠ []) : ∃ y, y ∈ cs ∧ ∃ z, z ∈ nbs y ∧ z ∉ cs := by
  obtain ⟨y, hy, hm⟩ := top_cell h
  refine ⟨y, hy, (y.1 + 1, y.2), by simp [nbs], fun hz => ?_⟩
  have := hm _ hz
  simp only at this
  omega
section
variable {K : PySem.W.Frag} {s : TSt} {H : Hp} {ta tb tc : TE} {D : Ends} {u tu : TS} {P1 P2 P3 : Pd} {t1 t2 t3 : TT}
theorem q_par3WPW {i j l : Nat} (ha : EvW ta s H P1) (hb : EvP tb s H P2) (hc : EvW tc s H P3) (k : ∀ p v q H1, H p = none → H q = none → p ≠ q → Ex H H1 → P1.p H1 (.ref p) → P2.p H1 v → P3.p H1 (.ref q) → u D (((s.set i (some (.ref p))).set j (some v)).set l (some (.ref q))) H1) :
    tSeq (tPar3 i j l (tCons ta (tCons tb (tCons tc tNil)))) u D s H :=
  ha H Ex.same _ fun p H1 n1 n1' e1 h1 => hb H1 e1 _ fun v H2 e2 h2 => hc H2 (e1.tr e2) _ fun q H3 n3 n3' e3 h3 => ⟨_, _, _, rfl, k p v q H3 n1 ((e1.tr e2).back n3) (fun z => n1' (by rw [z]; exact e2.back n3)) ((e1.tr e2).tr e3) (P1.up (e2.tr e3) h1) (P2.up e3 h2) h3⟩
theorem q_asg3WWW {i j l : Nat} (ha : EvW ta s H P1) (hb : EvW tb s H P2) (hc : EvW tc s H P3) (k : ∀ p q r H1, H p = none → H q = none → H r = none → p ≠ q → p ≠ r → q ≠ r → Ex H H1 → P1.p H1 (.ref p) → P2.p H1 (.ref q) → P3.p H1 (.ref r) → u D (((s.set i (some (.ref p))).set j (some (.ref q))).set l (some (.ref r))) H1) :
    tSeq (tAsg (tTup (tCons ta (tCons tb (tCons tc tNil)))) (gTup K 3 (gCons (gName i) (gCons (gName j) (gCons (gName l) gNil))))) u D s H :=
  ha H Ex.same _ fun p H1 n1 n1' e1 h1 => hb H1 e1 _ fun q H2 n2 n2' e2 h2 => hc H2 (e1.tr e2) _ fun r H3 n3 n3' e3 h3 => ⟨by show 3 ≤ sizeLine; decide, fun a na =>
    ⟨a, [.ref p, .ref q, .ref r], rfl, .inl (.inl upd_same), rfl, _, _, rfl, _, _, rfl, _, _, rfl, rfl, k p q r _ n1 (e1.back n2) ((e1.tr e2).back n3) (fun z => n1' (by rw [z]; exact n2)) (fun z => n1' (by rw [z]; exact e2.back n3)) (fun z => n2' (by rw [z]; exact n3))
      (((e1.tr e2).tr e3).tr (Ex.new na)) (P1.up ((e2.tr e3).tr (Ex.new na)) h1) (P2.up (e3.tr (Ex.new na)) h2) (P3.up (Ex.new na) h3)⟩⟩
/-- if a and b and (a draw): -/
theorem q_if3 {d c : Addr} {n : Nat} {b1 b2 : Bool} (hp : PenAt H d c n) (h1 : EvB t1 s H b1) (h2 : EvB t2 s H b2) (h3 : ∀ H1, Ex H H1 → ∀ Q : Bool → Hp → Prop, (∀ b H2, Mv [d] H1 H2 → PenAt H2 d c (n + 1) → Q b H2) → t3 s H1 Q)
    (yes : b1 = true → b2 = true → ∀ H2, Mv [d] H H2 → PenAt H2 d c (n + 1) → tu { D with nx := u D } s H2) (no : ∀ H2, Mv [d] H H2 → PenAt H2 d c (n + 1) → u D s H2) : tSeq (tIfS (tAnd t1 (tAnd t2 t3)) tu tNext) u D s H :=
  h1 H Ex.same _ fun H1 e1 => by
    have noE : ∀ H', Ex H H' → u D s H' := fun H' e => no H' (Mv.same.ex e) ((hp.up e).more (Nat.le_succ n))
    cases b1 with
    | false => exact noE H1 e1
    | true =>
      show t2 s H1 _
      refine h2 H1 e1 _ fun H2 e2 => ?_
      cases b2 with
      | false => exact noE H2 (e1.tr e2)
      | true =>
        show t3 s H2 _
        refine h3 H2 (e1.tr e2) _ fun b H3 m3 p3 => ?_
        have mm := (Mv.same.ex (e1.tr e2)).tr m3
        cases b with
        | true => exact yes rfl rfl H3 mm p3
        | false => exact no H3 mm p3
end
section
variable {P : Program} {w : World} {K : PySem.W.Frag} {mg : Str → Option Value} {base : Heap}
abbrev s_law_t2_way : Stmt := topS 43
abbrev n_law_t2_way : List Str := ["_law_steps", "_law_turns", "_law_cells", "_law_at", "_law_ahead", "_law_k", "_law_by", "_law_lap"]
theorem sc_law_t2_way : FnScope n_law_t2_way ["_law_steps", "_law_turns"] (defScope s_law_t2_way) := ⟨rfl, rfl, rfl, by decide +kernel, rfl, by decide +kernel, by decide +kernel⟩
def spWay : Sp := S2W fun P1 P2 Pz => ∃ (ks : List Int) (t : Int), P1 = li ks ∧ P2 = en t ∧ ks.length ≤ 100 ∧ (∀ k, k ∈ ks → 0 ≤ k ∧ k ≤ 1000) ∧ Pz = liX Grow
theorem ok_law_way (T : Txt K mg "_law_t2_way" "_law_t2_way" s_law_t2_way ["_law_steps", "_law_turns"]) (Z : Blt mg) : Cal P w K mg base 1 "_law_t2_way" ["_law_steps", "_law_turns"] spWay :=
  T.cal sc_law_t2_way S2W.len fun f cdv A outer s H vs Q E hr h => by
    obtain ⟨v1, v2, P1, P2, Pz, rfl, ⟨ks, t, rfl, rfl, hkl, hks, rfl⟩, ⟨a, rfl, ha⟩, h2, q⟩ := h
    obtain rfl : v2 = .int t := h2
    refine ⟨_, (pss_cons (ps_par3 (i := 2) (j := 3) (l := 4) rfl sc_law_t2_way.nd rfl rfl rfl (by decide) (by decide) (by decide) rfl rfl rfl (pa_cons (pe_lst (pa_cons (pe_tup (pa_cons pe_int (pa_cons pe_int pa_nil))) pa_nil)) (pa_cons (pe_tup (pa_cons pe_int (pa_cons pe_int pa_nil))) (pa_cons (pe_lst (pa_cons (pe_tup (pa_cons pe_int (pa_cons pe_int pa_nil))) (pa_cons (pe_tup (pa_cons pe_int (pa_cons pe_int pa_nil))) (pa_cons (pe_tup (pa_cons (pe_un un_neg pe_int) (pa_cons pe_int pa_nil))) (pa_cons (pe_tup (pa_cons pe_int (pa_cons (pe_un un_neg pe_int) pa_nil))) pa_nil))))) pa_nil))) (by rfl))
      (pss_cons (ps_for PassesOwn.never rfl (pi_range1 (by rfl) Z.range (pa_cons (pe_callB call_len_seq (by rfl) Z.len (by decide +kernel) (pa_cons (pv 0) pa_nil)) pa_nil)) (pg_name (i := 5) sc_law_t2_way.nd rfl (Or.inl rfl)) (pss_cons (ps_set (i := 6) sc_law_t2_way.nd rfl (Or.inl rfl) (pe_ix ix_list (pv 4) (pe_op op_mod (pe_callTy call_int1 (by rfl) Z.int (by decide +kernel) (pa_cons (pe_op op_mul (pv 1) (pv 5)) pa_nil)) pe_int) (fun _ _ => rfl)))
      (pss_one (ps_for PassesOwn.never rfl (pi_range1 (by rfl) Z.range (pa_cons (pe_ix ix_list (pv 0) (pv 5) (fun _ _ => rfl)) pa_nil)) (pg_name (i := 7) sc_law_t2_way.nd rfl (Or.inl rfl)) (pss_cons (ps_set (i := 3) sc_law_t2_way.nd rfl (Or.inl rfl) (pe_tup (pa_cons (pe_op op_add (pe_ix ix_tup (pv 3) pe_int (fun _ _ => rfl)) (pe_ix ix_tup (pv 6) pe_int (fun _ _ => rfl))) (pa_cons (pe_op op_add (pe_ix ix_tup (pv 3) pe_int (fun _ _ => rfl)) (pe_ix ix_tup (pv 6) pe_int (fun _ _ => rfl))) pa_nil))))
      (pss_one (ps_expr (pe_bm PySem.F.plainAttrs_list PySem.F.slot_list_append PySem.F.type_list_append mt_append (pv 2) (pa_cons (pv 3) pa_nil)))))))))
      (pss_one (ps_ret (pv 2))))), ?_⟩
    refine q_par3WPW (P1 := li [((0 : Int), (0 : Int))]) (P2 := en ((0 : Int), (0 : Int))) (P3 := li [((1 : Int), (0 : Int)), (0, 1), (-1, 0), (0, -1)]) (en_lst (xs := [((0 : Int), (0 : Int))]) (ea_cons (ev_pair ev_int ev_int) ea_nil)).w (ev_pair ev_int ev_int)
      (en_lst (xs := [((1 : Int), (0 : Int)), (0, 1), (-1, 0), (0, -1)]) (ea_cons (ev_pair ev_int ev_int) (ea_cons (ev_pair ev_int ev_int) (ea_cons (ev_pair (ev_neg (i := 1) ev_int) ev_int) (ea_cons (ev_pair ev_int (ev_neg (i := 1) ev_int)) ea_nil))))).w fun pc vt ph H1 n1 n2 hne e1 hc hv hh => ?_
    replace hc := li_at hc
    replace hh := li_at hh
    refine q_forR1 (n := (ks.length : Int)) (ea_cons (ev_len rfl (ev_li rfl (ha.up e1))) ea_nil) (by omega) fun H2 e2 => ⟨fun i s' H' => ∃ vt u5 u6 u7 cs at', s' = [some (.ref a), some (.int t), some (.ref pc), some vt, some (.ref ph), u5, u6, u7] ∧ Mv [pc] H2 H' ∧ Ls H' pc cs ∧ Grow cs ∧ at' ∈ cs ∧ En H' vt at' ∧ cs.length ≤ 1 + 1000 * i,
      ⟨vt, _, _, _, [(0, 0)], (0, 0), rfl, Mv.same, hc.up e2, .one, List.mem_cons_self, en_up e2 hv, by simp⟩, fun i s' H' hi ⟨vt, u5, u6, u7, cs, at', es, mm, hcs, hg, hin, hat, hl⟩ => ?_, fun s' H' ⟨vt, u5, u6, u7, cs, at', es, mm, hcs, hg, hin, hat, hl⟩ => ?_⟩
    · subst es
      have hE : Ex H H' := (e1.tr e2).mv mm (no1 n1)
      obtain ⟨k, hk⟩ : ∃ k, ks[i]? = some k := ⟨_, List.getElem?_eq_getElem (by omega)⟩
      obtain ⟨k0, k1⟩ := hks k (List.mem_of_getElem? hk)
      obtain ⟨jn, hj⟩ : ∃ jn : Nat, t * (i : Int) % 4 = (jn : Int) := ⟨(t * (i : Int) % 4).toNat, by
        have := Int.emod_nonneg (t * (i : Int)) (show (4 : Int) ≠ 0 by decide)
        omega⟩
      have hj4 : jn < 4 := by
        have := Int.emod_lt_of_pos (t * (i : Int)) (show (0 : Int) < 4 by decide)
        omega
      obtain ⟨by', hby⟩ : ∃ y, [((1 : Int), (0 : Int)), (0, 1), (-1, 0), (0, -1)][jn]? = some y := ⟨_, List.getElem?_eq_getElem (by simpa using hj4)⟩
      have hmem := List.mem_of_getElem? hby
      have hnb : ∀ x : Cell, (x.1 + by'.1, x.2 + by'.2) ∈ nbs x := fun x => by
        simp only [List.mem_cons, List.not_mem_nil, or_false] at hmem
        rcases hmem with rfl | rfl | rfl | rfl <;> simp [nbs] <;> omega
      refine q_asg (P := en by') (ev_ixL (ev_li rfl ((hh.up e2).mv (mem1 hne.symm) mm)) (ev_Ic (ev_intf rfl (ev_Ic (i := t) (j := (i : Int)) (ev_var rfl rfl) (ev_var rfl rfl) (.inr (by omega)))) ev_int (by decide)) (by rw [hj]; exact atI_nat hby)) fun vb H3 e3 hvb => ?_
      refine s_forR1 (n := k) (ea_cons (ev_ixL (ev_li rfl (ha.up (hE.tr e3))) (ev_var rfl rfl) (atI_nat hk)) ea_nil) (by omega) fun H4 e4 => ⟨fun lap s' H' => ∃ vt u7 cs at', s' = [some (.ref a), some (.int t), some (.ref pc), some vt, some (.ref ph), some (.int (i : Int)), some vb, u7] ∧ Mv [pc] H4 H' ∧ Ls H' pc cs ∧ Grow cs ∧ at' ∈ cs ∧ En H' vt at' ∧ cs.length ≤ 1 + 1000 * i + lap,
        ⟨vt, _, cs, at', rfl, Mv.same, hcs.up (e3.tr e4), hg, hin, en_up (e3.tr e4) hat, by omega⟩, fun lap s' H' hlap ⟨vt, u7, cs, at', es, mm2, hcs, hg, hin, hat, hl⟩ => ?_, fun s' H' ⟨vt, u7, cs, at', es, mm2, hcs, hg, hin, hat, hl⟩ => ?_⟩
      · subst es
        have hvb' : En H' vb by' := en_mv (en_up e4 hvb) mm2
        refine q_asg (P := en (at'.1 + by'.1, at'.2 + by'.2)) (ev_pair (ev_I (ev_fst (ev_var rfl hat)) (ev_fst (ev_var rfl hvb'))) (ev_I (ev_snd (ev_var rfl hat)) (ev_snd (ev_var rfl hvb')))) fun va2 H5 e5 hva2 => ?_
        refine s_app' (x := (at'.1 + by'.1, at'.2 + by'.2)) (hcs.up e5) (ev_vr rfl) (ev_var rfl hva2) (by omega) fun H6 e6 H7 b7 hcs7 => ?_
        refine ⟨_, _, _, (at'.1 + by'.1, at'.2 + by'.2), rfl, ((mm2.ex e5).ex e6).but b7 (.inl List.mem_cons_self), hcs7, .more hg hin (.inl (hnb at')), List.mem_append_right _ List.mem_cons_self, Enc.mono b7.tu (en_up e6 hva2), ?_⟩
        rw [List.length_append, List.length_singleton]
        omega
      · subst es
        exact ⟨_, _, _, _, cs, at', rfl, ((mm.ex e3).ex e4).tr mm2, hcs, hg, hin, hat, by omega⟩
    · subst es
      have hE : Ex H H' := (e1.tr e2).mv mm (no1 n1)
      refine s_ret (P := va (.ref pc)) (ev_vr rfl) fun v H9 e9 hv => ?_
      obtain rfl : v = .ref pc := hv
      exact q pc H9 n1 (hcs.up e9).nn (hE.tr e9) ⟨cs, hg, pc, rfl, hcs.up e9⟩
end
end TB
set_option Elab.async false
set_option linter.all false
set_option maxRecDepth 100000
set_option maxHeartbeats 4000000
/-! D11: blob. -/
namespace TB
open PySem PySem.Spec PyProof.Rows L2
theorem mem3 {a x y z : Addr} (h : a ≠ x) (k : a ≠ y) (l : a ≠ z) : a ∉ [x, y, z] := fun q => by
  rcases List.mem_cons.mp q with q | q
  · exact h q
  · exact mem2 k l q
theorem mem4 {a w x y z : Addr} (g : a ≠ w) (h : a ≠ x) (k : a ≠ y) (l : a ≠ z) : a ∉ [w, x, y, z] := fun q => by
  rcases List.mem_cons.mp q with q | q
  · exact g q
  · exact mem3 h k l q
theorem in1 {x y : Addr} {l : List Addr} (h : y ∈ l) : y ∈ x :: l := List.mem_cons_of_mem _ h
theorem last_snoc {α : Type} {xs : List α} {n : Nat} (h : xs.length = n + 1) : ∃ y, atI xs (-1) = some y ∧ y ∈ xs ∧ xs[n]? = some y := by
  have hne : xs ≠ [] := fun e => by rw [e] at h; cases h
  have e := List.dropLast_concat_getLast hne
  refine ⟨xs.getLast hne, ?_, List.getLast_mem hne, ?_⟩
  · conv => lhs; rw [← e]
    exact atI_last _ _
  · rw [← List.getLast?_eq_getLast hne, List.getLast?_eq_getElem?, h]
    rfl
section
variable {P : Program} {w : World} {K : PySem.W.Frag} {mg : Str → Option Value} {base : Heap}
abbrev s_law_t2_blob : Stmt := topS 42
abbrev n_law_t2_blob : List Str := ["_law_pen_here", "_law_many", "_law_taste", "_law_cells", "_law_known", "_law_counts", "_law_lap", "_law_one", "_law_free", "_law_thin", "_law_thick"]
theorem sc_law_t2_blob : FnScope n_law_t2_blob ["_law_pen_here", "_law_many", "_law_taste"] (defScope s_law_t2_blob) := ⟨rfl, rfl, rfl, by decide +kernel, rfl, by decide +kernel, by decide +kernel⟩
/-- a new list of squares -/
def spBlob : Sp := fun vs H Q _ => ∃ (d c : Addr) (n : Nat) (m t : Int), vs = [.ref d, .int m, .int t] ∧ PenAt H d c n ∧ 1 ≤ m ∧ m ≤ 100 ∧ n < 100000000 ∧ ∀ cs p H', Grow cs → cs.length = m.toNat → H p = none → Mv [d] H H' → PenAt H' d c (n + 300) → Ls H' p cs → Q (.ref p) H'
theorem ok_law_blob (T : Txt K mg "_law_t2_blob" "_law_t2_blob" s_law_t2_blob ["_law_pen_here", "_law_many", "_law_taste"]) (Z : Blt mg) (C_law_draw : Cal P w K mg base 1 "_law_draw" ["_law_pen_here", "_law_many"] spDraw) (C_law_pick : Cal P w K mg base 2 "_law_pick" ["_law_pen_here", "_law_some"] spPick)
    (C_law_t2_beside : Cal P w K mg base 1 "_law_t2_beside" ["_law_cell"] spBesideL) : Cal P w K mg base 3 "_law_t2_blob" ["_law_pen_here", "_law_many", "_law_taste"] spBlob :=
  T.cal sc_law_t2_blob (fun vs H Q E ⟨d, c, n, m, t, e, _⟩ => by subst e; rfl) fun f cdv A outer s H vs Q E hr h => by
    obtain ⟨d, c, n, m, t, rfl, hp0, hm1, hm2, hn, q⟩ := h
    refine ⟨_, (pss_cons (ps_asg (pe_tup (pa_cons (pe_lst (pa_cons (pe_tup (pa_cons pe_int (pa_cons pe_int pa_nil))) pa_nil)) (pa_cons pe_dnewT (pa_cons pe_dnewT pa_nil)))) (pg_tup rfl (pgs_cons (pg_name (i := 3) sc_law_t2_blob.nd rfl (Or.inl rfl)) (pgs_cons (pg_name (i := 4) sc_law_t2_blob.nd rfl (Or.inr rfl)) (pgs_cons (pg_name (i := 5) sc_law_t2_blob.nd rfl (Or.inr rfl)) pgs_nil)))))
      (pss_cons (ps_dput (ru1 hr) (pv 4) (pe_tup (pa_cons pe_int (pa_cons pe_int pa_nil))) pe_bl rfl)
      (pss_cons (ps_for PassesOwn.never rfl (pi_range1 (by rfl) Z.range (pa_cons (pe_op op_sub (pv 1) pe_int) pa_nil)) (pg_name (i := 6) sc_law_t2_blob.nd rfl (Or.inl rfl)) (pss_cons (ps_for PassesOwn.never rfl (pi_list (pe_cal C_law_t2_beside (hr.mono (by decide)) (pa_cons (pe_ix ix_list (pv 3) (pe_un un_neg pe_int) (fun _ _ => rfl)) pa_nil))) (pg_name (i := 7) sc_law_t2_blob.nd rfl (Or.inl rfl)) (pss_one (ps_dput (ru1 hr) (pv 5) (pv 7) (pe_op op_add (pe_dget2 (ru1 hr) (pv 5) (pv 7) pe_int ⟨rfl, rfl, rfl, rfl⟩) pe_int) rfl)))
      (pss_cons (ps_setLc (i := 8) (own := [("_law_one", 7)]) (g := gName 7)  rfl sc_law_t2_blob.nd rfl rfl (sw_true rfl rfl rfl (by decide +kernel)) (pi_list (pe_callTy (call_list_dT rfl) (by rfl) Z.list (by decide +kernel) (pa_cons (pv 5) pa_nil))) (blkOk_by (N := n_law_t2_blob) (sc := defScope s_law_t2_blob) (by decide +kernel)) (fun _ _ _ _ _ => (pg_name (i := 7) sc_law_t2_blob.nd rfl (Or.inl rfl))) (fun _ _ _ _ _ => (pts_one (pt_cmp ((pc_dnotin (ru1 hr)) (pv 7) (pv 4))))) (fun _ _ _ _ _ => (pv 7)))
      (pss_cons (ps_setLc (i := 9) (own := [("_law_one", 7)]) (g := gName 7)  rfl sc_law_t2_blob.nd rfl rfl (sw_true rfl rfl rfl (by decide +kernel)) (pi_list (pv 8)) (blkOk_by (N := n_law_t2_blob) (sc := defScope s_law_t2_blob) (by decide +kernel)) (fun _ _ _ _ _ => (pg_name (i := 7) sc_law_t2_blob.nd rfl (Or.inl rfl))) (fun _ _ _ _ _ => (pts_one (pt_cmpR op_eq (pe_dget (ru1 hr) (pv 5) (pv 7) (fun _ _ => rfl)) pe_int (nomark _)))) (fun _ _ _ _ _ => (pv 7)))
      (pss_cons (ps_setLc (i := 10) (own := [("_law_one", 7)]) (g := gName 7)  rfl sc_law_t2_blob.nd rfl rfl (sw_true rfl rfl rfl (by decide +kernel)) (pi_list (pv 8)) (blkOk_by (N := n_law_t2_blob) (sc := defScope s_law_t2_blob) (by decide +kernel)) (fun _ _ _ _ _ => (pg_name (i := 7) sc_law_t2_blob.nd rfl (Or.inl rfl))) (fun _ _ _ _ _ => (pts_one (pt_cmpR op_gt (pe_dget (ru1 hr) (pv 5) (pv 7) (fun _ _ => rfl)) pe_int (nomark _)))) (fun _ _ _ _ _ => (pv 7)))
      (pss_cons (ps_if (PW.pt (pw_and (pt_cmpR op_eq (pv 2) pe_int (nomark _)) (pw_and (pt_cmpR (op_neD (ru64 hr)) (pv 9) (pe_lst pa_nil) (nomark _)) (pw_and1 (pt_cmpR op_gt (pe_cal C_law_draw (hr.mono (by decide)) (pa_cons (pv 0) (pa_cons pe_int pa_nil))) pe_int (nomark _)))))) (pss_one (ps_set (i := 8) sc_law_t2_blob.nd rfl (Or.inl rfl) (pv 9))) pss_nil)
      (pss_cons (ps_if (PW.pt (pw_and (pt_cmpR op_eq (pv 2) pe_int (nomark _)) (pw_and (pt_cmpR (op_neD (ru64 hr)) (pv 10) (pe_lst pa_nil) (nomark _)) (pw_and1 (pt_cmpR op_gt (pe_cal C_law_draw (hr.mono (by decide)) (pa_cons (pv 0) (pa_cons pe_int pa_nil))) pe_int (nomark _)))))) (pss_one (ps_set (i := 8) sc_law_t2_blob.nd rfl (Or.inl rfl) (pv 10))) pss_nil)
      (pss_cons (ps_expr (pe_bm PySem.F.plainAttrs_list PySem.F.slot_list_append PySem.F.type_list_append mt_append (pv 3) (pa_cons (pe_cal C_law_pick (hr.mono (by decide)) (pa_cons (pv 0) (pa_cons (pv 8) pa_nil))) pa_nil)))
      (pss_one (ps_dput (ru1 hr) (pv 4) (pe_ix ix_list (pv 3) (pe_un un_neg pe_int) (fun _ _ => rfl)) pe_bl rfl))))))))))
      (pss_one (ps_ret (pv 3)))))), ?_⟩
    refine q_asg3WWW (P1 := li [((0 : Int), (0 : Int))]) (P2 := ds ([] : List (Cell × Bool))) (P3 := ds ([] : List (Cell × Int))) (en_lst (xs := [((0 : Int), (0 : Int))]) (ea_cons (ev_pair ev_int ev_int) ea_nil)).w ew_dict ew_dict fun pc pk pt H1 nc nk nt hck hct hkt e1 hc hk ht => ?_
    replace hc := li_at hc
    replace hk := ds_at hk
    replace ht := ds_at ht
    obtain ⟨hdc, hcc⟩ := hp0.new nc
    obtain ⟨hdk, hcck⟩ := hp0.new nk
    obtain ⟨hdt, hcct⟩ := hp0.new nt
    refine q_dput (c := ((0 : Int), (0 : Int))) (x := true) hk ev_bl (ev_vr rfl) (ev_pair ev_int ev_int) (by decide) fun H2 e2 H3 b3 hk3 => ?_
    have hE3 : Ex H H3 := (e1.tr e2).but nk b3
    have hc3 := (hc.up e2).but hck b3
    have ht3 := (ht.up e2).but hkt.symm b3
    have hp3 : PenAt H3 d c n := hp0.up hE3
    refine q_forR1 (n := m - 1) (ea_cons (ev_I (ev_var rfl rfl) ev_int) ea_nil) (by omega) fun H4 e4 => ⟨fun lap s' H' => ∃ u6 u7 u8 u9 u10 cs kn ct, s' = [some (.ref d), some (.int m), some (.int t), some (.ref pc), some (.ref pk), some (.ref pt), u6, u7, u8, u9, u10] ∧ Mv [d, pc, pk, pt] H4 H' ∧ PenAt H' d c (n + 3 * lap) ∧
      Ls H' pc cs ∧ Dc (β := Bool) H' pk kn ∧ Dc (β := Int) H' pt ct ∧ Grow cs ∧ cs.length = lap + 1 ∧ (∀ x, (dget kn x).isSome = true ↔ x ∈ cs) ∧ kn.length ≤ lap + 1 ∧ (∀ x, (dget ct x).isSome = true → ∃ y, y ∈ cs ∧ x ∈ nbs y) ∧ (∀ j y, j < lap → cs[j]? = some y → ∀ z, z ∈ nbs y → (dget ct z).isSome = true) ∧ ct.length ≤ 4 * lap,
      ⟨_, _, _, _, _, [(0, 0)], [((0, 0), true)], [], rfl, Mv.same, hp3.up e4, hc3.up e4, hk3.up e4, ht3.up e4, .one, rfl, fun x => ?_, Nat.le_refl _, fun x hx => ?_, fun j y hj => by omega, Nat.le_refl _⟩,
      fun lap s' H' hlap ⟨u6, u7, u8, u9, u10, cs, kn, ct, es, mm, hpen, hcs, hkn, hct', hg, hlen, hkm, hkl, hca, hcb, hcl⟩ => ?_, fun s' H' ⟨u6, u7, u8, u9, u10, cs, kn, ct, es, mm, hpen, hcs, hkn, hct', hg, hlen, hkm, hkl, hca, hcb, hcl⟩ => ?_⟩
    · rw [dget_cons, dget_nil, List.mem_singleton]
      by_cases e : (0, 0) = x
      · simp [e]
      · rw [if_neg e]
        simp only [Option.isSome_none, Bool.false_eq_true, false_iff]
        exact fun z => e z.symm
    · rw [dget_nil] at hx
      cases hx
    · subst es
      obtain ⟨y, hy1, hy2, hy3⟩ := last_snoc hlen
      have hpck : pk ≠ pc := hck.symm
      -- for one in beside(cells[-1])
      refine q_forN [pt] (xs := nbs y) (ew_c1 (P1 := en y) (ea_cons (ev_ixL (ev_li rfl hcs) (ev_neg (i := 1) ev_int) hy1) ea_nil) ⟨y, rfl, rfl⟩).n (nn1 hct'.nn) fun H5 e5 => ⟨fun j s2 H2' => ∃ u7 ct', s2 = [some (.ref d), some (.int m), some (.int t), some (.ref pc), some (.ref pk), some (.ref pt), some (.int (lap : Int)), u7, u8, u9, u10] ∧ Mv [pt] H5 H2' ∧ Dc (β := Int) H2' pt ct' ∧
          (∀ x, (dget ct' x).isSome = true ↔ (dget ct x).isSome = true ∨ x ∈ (nbs y).take j) ∧ ct'.length ≤ 4 * lap + j,
        ⟨_, ct, rfl, Mv.same, hct'.up e5, fun x => by simp, by omega⟩, fun j s2 H2' ⟨_, _, _, mm, _⟩ => mm, fun j z u s2 H2' hz hu ⟨u7, ct', es, mm5, hct5, hiff, hl5⟩ => ?_, fun s2 H2' ⟨u7, ct', es, mm5, hct5, hiff, hl5⟩ => ?_⟩
      · subst es
        have hj : j < 4 := (List.getElem?_eq_some_iff.mp hz).1
        refine s_dput' (c := z) (x := (dget ct' z).getD 0 + 1) hct5 (ev_I (ev_get2 (ev_ds rfl hct5) (ev_var rfl hu) ev_int) ev_int) (ev_vr rfl) (ev_var rfl hu) (by omega) fun H6 e6 H7 b7 hct7 => ⟨_, _, rfl, (mm5.ex e6).but b7 (.inl List.mem_cons_self), hct7, fun x => ?_, ?_⟩
        · rw [dget_put, take_snoc hz, List.mem_append, List.mem_singleton]
          by_cases e : x = z
          · simp [e]
          · rw [if_neg e, hiff]
            simp [e]
        · have := dput_len (kvs := ct') (k := z) (v := (dget ct' z).getD 0 + 1)
          omega
      · subst es
        rw [show (nbs y).length = 4 from rfl] at hl5
        rw [show (nbs y).length = 4 from rfl, show (nbs y).take 4 = nbs y from rfl] at hiff
        have hcs6 := (hcs.up e5).mv (mem1 hct) mm5
        have hkn6 := (hkn.up e5).mv (mem1 hkt) mm5
        have hpen6 := (hpen.up e5).mv mm5 (mem1 hdt) (mem1 hcct)
        have mm6 : Mv [d, pc, pk, pt] H4 H2' := (mm.ex e5).trw mm5 fun a ha => .inl (by rw [List.mem_singleton.mp ha]; exact in1 (in1 (in1 List.mem_cons_self)))
        -- what may be taken
        have fr_ne : ((ct'.map (·.1)).filter fun x => !(dget kn x).isSome) ≠ [] := by
          obtain ⟨a, ha, z, hz, hzn⟩ := edge_cell hg.ne
          refine List.ne_nil_of_mem (a := z) (List.mem_filter.mpr ⟨dget_some.mp ((hiff z).mpr ?_), ?_⟩)
          · obtain ⟨j, hj, hja⟩ := List.getElem_of_mem ha
            by_cases e : j < lap
            · exact .inl (hcb j a e (by rw [List.getElem?_eq_getElem hj, hja]) z hz)
            · have : j = lap := by omega
              subst this
              rw [List.getElem?_eq_getElem hj, hja] at hy3
              cases hy3
              exact .inr hz
          · cases hq : (dget kn z).isSome with
            | false => rfl
            | true => exact absurd ((hkm z).mp hq) hzn
        have fr_ok : ∀ x, x ∈ ((ct'.map (·.1)).filter fun x => !(dget kn x).isSome) → (dget ct' x).isSome = true ∧ (∃ y, y ∈ cs ∧ x ∈ nbs y) := fun x hx => by
          have h1 := dget_some.mpr (List.mem_filter.mp hx).1
          refine ⟨h1, ?_⟩
          rcases (hiff x).mp h1 with h | h
          · exact hca x h
          · exact ⟨y, hy2, h⟩
        have fr_len : ((ct'.map (·.1)).filter fun x => !(dget kn x).isSome).length ≤ 4 * lap + 4 := Nat.le_trans (List.length_filter_le _ _) (by rw [List.length_map]; exact hl5)
        refine q_asgN ((en_lcL (f := fun x => x) (p := fun x => !(dget kn x).isSome) (en_keys rfl (ev_ds rfl hct5)).li (by rw [List.length_map]; omega) fun x u' H'' hx e'' hu' => ⟨eb_test (ev_niD (ev_var rfl hu') (ev_ds rfl (hkn6.up e''))), fun _ => ev_var rfl hu'⟩).is (List.map_id' _)) fun p8 H7 n8 e7 h8 => ?_
        generalize ((ct'.map (·.1)).filter fun x => !(dget kn x).isSome) = fr at *
        have get1 : ∀ x, x ∈ fr → ∃ k, dget ct' x = some k := fun x hx => Option.isSome_iff_exists.mp (fr_ok x hx).1
        refine q_asgN ((en_lcL (f := fun x => x) (p := fun x => decide ((dget ct' x).getD 0 = 1)) (ev_li rfl h8) (by omega) fun x u' H'' hx e'' hu' => by
          obtain ⟨k, hk⟩ := get1 x hx
          refine ⟨(eb_test (ev_eqI (ev_dget (ev_ds rfl (hct5.up (e7.tr e''))) (ev_var rfl hu') hk) ev_int)).is ?_, fun _ => ev_var rfl hu'⟩
          rw [hk]
          rfl).is (List.map_id' _)) fun p9 H8 n9 e8 h9 => ?_
        refine q_asgN ((en_lcL (f := fun x => x) (p := fun x => decide (1 < (dget ct' x).getD 0)) (ev_li rfl (h8.up e8)) (by omega) fun x u' H'' hx e'' hu' => by
          obtain ⟨k, hk⟩ := get1 x hx
          refine ⟨(eb_test (ev_C (ev_dget (ev_ds rfl (hct5.up ((e7.tr e8).tr e''))) (ev_var rfl hu') hk) ev_int)).is ?_, fun _ => ev_var rfl hu'⟩
          rw [hk]
          rfl).is (List.map_id' _)) fun p10 H9 n10 e9 h10 => ?_
        have f9 : ∀ x, x ∈ fr.filter (fun x => decide ((dget ct' x).getD 0 = 1)) → x ∈ fr := fun x hx => (List.mem_filter.mp hx).1
        have f10 : ∀ x, x ∈ fr.filter (fun x => decide (1 < (dget ct' x).getD 0)) → x ∈ fr := fun x hx => (List.mem_filter.mp hx).1
        have l9 := List.length_filter_le (fun x => decide ((dget ct' x).getD 0 = 1)) fr
        have l10 := List.length_filter_le (fun x => decide (1 < (dget ct' x).getD 0)) fr
        generalize fr.filter (fun x => decide ((dget ct' x).getD 0 = 1)) = fr9 at *
        generalize fr.filter (fun x => decide (1 < (dget ct' x).getD 0)) = fr10 at *
        have e79 := (e7.tr e8).tr e9
        have hpen9 := hpen6.up e79
        have h8' := (h8.up e8).up e9
        have h9' := h9.up e9
        have p8d : p8 ≠ d := hpen9.ne h8'
        have p9d : p9 ≠ d := hpen9.ne h9'
        have p10d : p10 ≠ d := hpen9.ne h10
        -- behind both choices
        refine q_with (fun s' H' => ∃ px fx, s' = [some (.ref d), some (.int m), some (.int t), some (.ref pc), some (.ref pk), some (.ref pt), some (.int (lap : Int)), u7, some (.ref px), some (.ref p9), some (.ref p10)] ∧ Mv [d] H9 H' ∧ PenAt H' d c (n + 3 * lap + 1) ∧ Ls H' px fx ∧ Ls H' p10 fr10 ∧ fx ≠ [] ∧ (∀ x, x ∈ fx → x ∈ fr) ∧ fx.length ≤ 4 * lap + 4)
          (fun s' H' ⟨px, fx, es, mmx, hpenx, hpx, hp10x, hfn, hfs, hfl⟩ => ?_) fun fin1 => ?_
        · subst es
          refine q_with (fun s' H' => ∃ px fx, s' = [some (.ref d), some (.int m), some (.int t), some (.ref pc), some (.ref pk), some (.ref pt), some (.int (lap : Int)), u7, some (.ref px), some (.ref p9), some (.ref p10)] ∧ Mv [d] H9 H' ∧ PenAt H' d c (n + 3 * lap + 2) ∧ Ls H' px fx ∧ fx ≠ [] ∧ (∀ x, x ∈ fx → x ∈ fr) ∧ fx.length ≤ 4 * lap + 4)
            (fun s' H' ⟨px, fx, es, mmx, hpenx, hpx, hfn, hfs, hfl⟩ => ?_) fun fin2 => ?_
          · subst es
            have hcsx : Ls H' pc cs := (hcs6.up e79).mv (mem1 hdc.symm) mmx
            have hknx : Dc H' pk kn := (hkn6.up e79).mv (mem1 hdk.symm) mmx
            have hctx : Dc H' pt ct' := (hct5.up e79).mv (mem1 hdt.symm) mmx
            have mmX : Mv [d, pc, pk, pt] H4 H' := (mm6.ex e79).trw mmx fun a ha => .inl (by rw [List.mem_singleton.mp ha]; exact List.mem_cons_self)
            refine ⟨.ref pc, rfl, .inl ⟨rfl, by
              obtain ⟨us, z1, _⟩ := hcsx
              exact ⟨us, .inl (.inl z1)⟩⟩, .ref d, rfl, .ref px, rfl, Cell, inferInstance, inferInstance, fx, d, c, n + 3 * lap + 2, .ref px, rfl, hpenx, by omega, ⟨px, rfl, hpx⟩, hfn, by omega, fun x u Ha hx ma pa hu => ?_⟩
            have hcsa := hcsx.mv (mem1 hdc.symm) ma
            obtain ⟨us, g1, g2⟩ := hcsa
            have bt : Bt pc Ha (upd Ha pc (.lst (us ++ [u]))) := ⟨Tu.mutL g1, fun q hq => upd_ne hq⟩
            have hcs' : Ls (upd Ha pc (.lst (us ++ [u]))) pc (cs ++ [x]) := ⟨_, upd_same, paired_app (paired_map g2 fun _ _ z => Enc.mono bt.tu z) (.cons (Enc.mono bt.tu hu) .nil)⟩
            refine ⟨pc, us, u, rfl, rfl, g1, by rw [g2.length]; exact sz_lt (by omega), ?_⟩
            have hkna : Dc (upd Ha pc (.lst (us ++ [u]))) pk kn := (hknx.mv (mem1 hdk.symm) ma).but hck.symm bt
            have hcta : Dc (upd Ha pc (.lst (us ++ [u]))) pt ct' := (hctx.mv (mem1 hdt.symm) ma).but hct.symm bt
            have pena := pa.but bt ⟨hdc, hcc⟩
            have mma : Mv [d, pc, pk, pt] H4 (upd Ha pc (.lst (us ++ [u]))) := (mmX.trw ma fun a ha => .inl (by rw [List.mem_singleton.mp ha]; exact List.mem_cons_self)).but bt (.inl (in1 List.mem_cons_self))
            refine s_dput' (c := x) (x := true) hkna ev_bl (ev_vr rfl) (ev_ixL (ev_li rfl hcs') (ev_neg (i := 1) ev_int) (atI_last _ _)) (by omega) fun Hb eb Hc bc hkc => ?_
            obtain ⟨_, y', hy', hxy⟩ := fr_ok x (hfs x hx)
            refine ⟨_, _, _, _, _, cs ++ [x], _, ct', rfl, (mma.ex eb).but bc (.inl (in1 (in1 List.mem_cons_self))), ((pena.up eb).but bc ⟨hdk, hcck⟩).more (by omega), (hcs'.up eb).but hck bc, hkc, (hcta.up eb).but hkt.symm bc, .more hg hy' (.inl hxy), by rw [List.length_append, hlen]; rfl, fun z => ?_, ?_, fun z hz => ?_, fun j z hj hz r hr' => ?_, by omega⟩
            · rw [dget_put, List.mem_append, List.mem_singleton]
              by_cases e : z = x
              · simp [e]
              · rw [if_neg e, hkm]
                simp [e]
            · have := dput_len (kvs := kn) (k := x) (v := true)
              omega
            · rcases (hiff z).mp hz with h | h
              · obtain ⟨y2, z1, z2⟩ := hca z h
                exact ⟨y2, List.mem_append_left _ z1, z2⟩
              · exact ⟨y, List.mem_append_left _ hy2, h⟩
            · rw [List.getElem?_append_left (by omega)] at hz
              refine (hiff r).mpr ?_
              by_cases e : j < lap
              · exact .inl (hcb j z e hz r hr')
              · have : j = lap := by omega
                subst this
                rw [hy3] at hz
                cases hz
                exact .inr hr'
          · refine q_if3 (b1 := decide (t = 2)) (b2 := !decide (fr10 = [])) hpenx (eb_test (ev_eqI (ev_var rfl rfl) ev_int)) (eb_test (ev_neL (ev_li rfl hp10x) en_nil.li)) (fun Ha ea Q' q' => ⟨.ref d, rfl, d, c, _, 9, rfl, hpenx.up ea, by omega, by decide, by decide, fun z Hb z0 z1 mb pb => ⟨z, 0, rfl, rfl, decide (0 < z), rfl, q' _ Hb mb pb⟩⟩) (fun b1 b2 Ha ma pa => ?_) fun Ha ma pa => ?_
            · have hne : fr10 ≠ [] := by simpa using b2
              refine s_asg (P := va (.ref p10)) (ev_vr rfl) fun v Hb eb hv => ?_
              obtain rfl : v = .ref p10 := hv
              exact fin2 _ _ ⟨p10, fr10, rfl, (mmx.tr ma).ex eb, pa.up eb, (hp10x.mv (mem1 p10d) ma).up eb, hne, f10, by omega⟩
            · exact fin2 _ _ ⟨px, fx, rfl, mmx.tr ma, pa, hpx.mv (mem1 (hpenx.ne hpx)) ma, hfn, hfs, hfl⟩
        · refine q_if3 (b1 := decide (t = 1)) (b2 := !decide (fr9 = [])) hpen9 (eb_test (ev_eqI (ev_var rfl rfl) ev_int)) (eb_test (ev_neL (ev_li rfl h9') en_nil.li)) (fun Ha ea Q' q' => ⟨.ref d, rfl, d, c, _, 9, rfl, hpen9.up ea, by omega, by decide, by decide, fun z Hb z0 z1 mb pb => ⟨z, 0, rfl, rfl, decide (0 < z), rfl, q' _ Hb mb pb⟩⟩) (fun b1 b2 Ha ma pa => ?_) fun Ha ma pa => ?_
          · have hne : fr9 ≠ [] := by simpa using b2
            refine s_asg (P := va (.ref p9)) (ev_vr rfl) fun v Hb eb hv => ?_
            obtain rfl : v = .ref p9 := hv
            exact fin1 _ _ ⟨p9, fr9, rfl, ma.ex eb, pa.up eb, (h9'.mv (mem1 p9d) ma).up eb, (h10.mv (mem1 p10d) ma).up eb, hne, f9, by omega⟩
          · exact fin1 _ _ ⟨p8, fr, rfl, ma, pa, h8'.mv (mem1 p8d) ma, h10.mv (mem1 p10d) ma, fr_ne, fun x hx => hx, fr_len⟩
    · subst es
      refine s_ret (P := va (.ref pc)) (ev_vr rfl) fun v H9 e9 hv => ?_
      obtain rfl : v = .ref pc := hv
      refine q cs pc H9 hg (by omega) nc ?_ ((hpen.up e9).more (by omega)) (hcs.up e9)
      refine ((Mv.same.ex (hE3.tr e4)).trw mm fun a ha => ?_).ex e9
      simp only [List.mem_cons, List.not_mem_nil, or_false] at ha
      rcases ha with rfl | rfl | rfl | rfl
      · exact .inl List.mem_cons_self
      · exact .inr nc
      · exact .inr nk
      · exact .inr nt
end
end TB
set_option Elab.async false
set_option linter.all false
set_option maxRecDepth 100000
set_option maxHeartbeats 4000000
/-! D12: cells, body. -/
namespace TB
open PySem PySem.Spec PyProof.Rows L2
section
variable {K : PySem.W.Frag} {s : TSt} {H : Hp} {tr : TA} {E : XK} {sp : Sp} {Q : VK} {D : Ends} {u tu : TS} {g : TG}
theorem et_call {Ps : List Pd} (h : EvA tr s H Ps) (k : ∀ vs H1, Ex H H1 → AllP H1 vs Ps → sp vs H1 Q E) : tCall sp [] E tr s H Q := h H Ex.same _ fun vs H1 e hv => by
  rw [List.append_nil]
  exact k vs H1 e hv
theorem ev_cst {v : V} {P : Pd} (h : P.p H v) : EvP (tC v) s H P := fun H1 e Q q => q v H1 Ex.same (P.up e h)
theorem q_forR3 {lo hi st : Int} {n : Nat} (h : EvA tr s H [en lo, en hi, en st]) (hn : RgC lo hi st n) (k : ∀ H1, Ex H H1 → ∃ Pv : Nat → TSt → Hp → Prop, Pv 0 s H1 ∧
      (∀ (i : Nat) s' H', i < n → Pv i s' H' → g (.int (lo + (i : Nat) * st)) s' H' fun s2 H2 => tu (turnEnds { D with nx := u D } Pv i) s2 H2) ∧ (∀ s' H', Pv n s' H' → u D s' H')) : tSeq (tFor (iRng3 tr) g tu) u D s H :=
  h H Ex.same _ fun vs H1 e hv => by
    obtain ⟨v1, v2, v3, rfl, h1, h2, h3⟩ := al3 hv
    obtain rfl : v1 = .int lo := h1
    obtain rfl : v2 = .int hi := h2
    obtain rfl : v3 = .int st := h3
    obtain ⟨Pv, h0, hs, hd⟩ := k H1 e
    exact ⟨lo, hi, st, n, rfl, hn, for_rangeC (lo := lo) (c := st) (n := n) Pv h0 (fun i s' H' hi P => hs i s' H' hi P) hd⟩
end
theorem PenAt.fresh {H H1 : Hp} {d c p : Addr} {n : Nat} (h : PenAt H1 d c n) (m : Mv [d] H H1) (hp : H1 p = none) : H p = none := m.back (mem1 (h.new hp).1.symm) hp
theorem in1' {d : Addr} {H : Hp} (b : Addr) (h : b ∈ [d]) : b ∈ [d] ∨ H b = none := .inl h
/-- a row of squares -/
theorem row_grow : ∀ n : Nat, Grow ((rng 0 (n + 1)).map fun k => (k, (0 : Int)))
  | 0 => .one
  | n + 1 => by
    have e : rng 0 (n + 1 + 1) = rng 0 (n + 1) ++ [((n + 1 : Nat) : Int)] := by
      unfold rng
      rw [List.range_succ, List.map_append]
      simp
    rw [e, List.map_append]
    refine Grow.more (x := ((n : Int), 0)) (row_grow n) (List.mem_map.mpr ⟨_, mem_rng.mpr ⟨by omega, by omega⟩, rfl⟩) (.inl ?_)
    exact List.mem_cons_of_mem _ (List.mem_cons_of_mem _ (List.mem_cons.mpr (.inl (Prod.ext (by show ((n + 1 : Nat) : Int) = (n : Int) + 1; omega) rfl))))
/-- a tooth on it -/
theorem tooth_grow {cs : List Cell} (h : Grow cs) {k : Int} (hk : (k, 0) ∈ cs) : ∀ n : Nat, Grow (cs ++ (rng 0 n).map fun up => (k, 1 + up)) ∧ (k, (n : Int)) ∈ cs ++ (rng 0 n).map fun up => (k, 1 + up)
  | 0 => ⟨by simpa [rng] using h, by simpa [rng] using hk⟩
  | n + 1 => by
    obtain ⟨g1, g2⟩ := tooth_grow h hk n
    have e : rng 0 (n + 1) = rng 0 n ++ [(n : Int)] := by
      unfold rng
      rw [List.range_succ, List.map_append]
      simp
    rw [e, List.map_append, ← List.append_assoc]
    refine ⟨Grow.more (x := (k, (n : Int))) g1 g2 (.inl ?_), List.mem_append_right _ ?_⟩
    · exact List.mem_cons_of_mem _ (List.mem_cons_of_mem _ (List.mem_cons_of_mem _ (List.mem_cons.mpr (.inl (Prod.ext rfl (by show 1 + (n : Int) = (n : Int) + 1; omega))))))
    · exact List.mem_singleton.mpr (Prod.ext rfl (by show ((n + 1 : Nat) : Int) = 1 + (n : Int); omega))
theorem raw_ret {te : TE} {D : Ends} {s : TSt} {H : Hp} (h : te s H D.rt) : tRet te D s H := h
theorem raw_sl {r : V → Option Int → Option Int → Hp → VK → Prop} {te : TE} {tl th : TO} {s : TSt} {H : Hp} {Q : VK} (h : te s H fun x H1 => tl s H1 fun lo H2 => th s H2 fun hi H3 => r x lo hi H3 Q) : tSl r te tl th s H Q := h
theorem raw_call {sp : Sp} {E : XK} {ta : TA} {s : TSt} {H : Hp} {Q : VK} (h : ta s H fun vs H1 => sp (vs ++ []) H1 Q E) : tCall sp [] E ta s H Q := h
theorem raw_cons {ta : TE} {tr : TA} {s : TSt} {H : Hp} {Q : List V → Hp → Prop} (h : ta s H fun x H1 => tr s H1 fun xs H2 => Q (x :: xs) H2) : tCons ta tr s H Q := h
theorem raw_op {r : R2} {ta tb : TE} {s : TSt} {H : Hp} {Q : VK} (h : ta s H fun x H1 => tb s H1 fun y H2 => r x y H2 Q) : tOp r ta tb s H Q := h
theorem raw_CB {r : List V → Hp → VK → Prop} {ta : TA} {s : TSt} {H : Hp} {Q : VK} (h : ta s H fun xs H1 => r xs H1 Q) : tCB r ta s H Q := h
theorem raw_part {te : TE} {s : TSt} {H : Hp} {Q : Option Int → Hp → Prop} (h : te s H fun x H1 => ∃ i, x = .int i ∧ Q (some i) H1) : tPart te s H Q := h
/-- a draw -/
theorem raw_draw {d c : Addr} {n i : Nat} {m : Int} {tm : TE} {E : XK} {s : TSt} {H : Hp} {Q : VK} (hp : PenAt H d c n) (hn : n < 1000000000) (hs : s[i]? = some (some (.ref d))) (hm : EvP tm s H (en m)) (h0 : 0 < m) (h1 : m < 1000000)
    (k : ∀ x H', 0 ≤ x → x < m → Mv [d] H H' → PenAt H' d c (n + 1) → Q (.int x) H') : tCall spDraw [] E (tCons (tVar i) (tCons tm tNil)) s H Q := ⟨_, hs, hm H Ex.same _ fun v H1 e hv => by
  obtain rfl : v = .int m := hv
  exact ⟨d, c, n, m, rfl, hp.up e, hn, h0, h1, fun x H' x0 x1 mm pp => k x H' x0 x1 ((Mv.same.ex e).tr mm) pp⟩⟩
theorem raw_c {v : V} {s : TSt} {H : Hp} {Q : VK} (h : Q v H) : tC v s H Q := h
theorem raw_par {i j : Nat} {ta : TA} {u : TS} {D : Ends} {s : TSt} {H : Hp} (h : ta s H fun vs H1 => ∃ v w, vs = [v, w] ∧ u D ((s.set i (some v)).set j (some w)) H1) : tSeq (tPar i j ta) u D s H := h
theorem raw_nopart {s : TSt} {H : Hp} {Q : Option Int → Hp → Prop} (h : Q none H) : tNoPart s H Q := h
theorem raw_asg {te : TE} {i : Nat} {D : Ends} {s : TSt} {H : Hp} (h : te s H fun v H1 => D.nx (s.set i (some v)) H1) : tAsg te (gName i) D s H := h
theorem sl_at {α : Type} [DecidableEq α] [Enc α] {K : PySem.W.Frag} {H : Hp} {p : Addr} {cs : List α} {lo hi : Option Int} {Q : VK} (hc : Ls H p cs) (k : ∀ z H', H z = none → Ex H H' → Ls H' z (cut cs lo hi) → Q (.ref z) H') : rSlL K (.ref p) lo hi H Q := by
  obtain ⟨us, h1, h2⟩ := hc
  exact ⟨p, us, rfl, .inl (.inl h1), fun z hz => k z _ hz (Ex.new hz) ⟨_, upd_same, paired_map (paired_cut h2 lo hi) fun _ _ w => en_up (Ex.new hz) w⟩⟩
theorem cut_none {α : Type} [DecidableEq α] [Enc α] {cs : List α} {k : Int} (h : 0 ≤ k) : cut cs none (some k) = cs.take k.toNat := by
  obtain ⟨kn, rfl⟩ : ∃ kn : Nat, k = (kn : Int) := ⟨k.toNat, by omega⟩
  unfold cut
  rw [HT.sIx_nat, HT.sIx_none, Nat.sub_zero, Int.toNat_natCast]
  show List.take (min kn cs.length) cs = _
  by_cases z : kn ≤ cs.length
  · rw [Nat.min_eq_left z]
  · rw [Nat.min_eq_right (by omega), List.take_length, List.take_of_length_le (by omega)]
theorem rgc2 {k : Int} (h0 : 0 ≤ k) (h1 : k ≤ 40) : RgC 0 k 2 ((k.toNat + 1) / 2) := by
  obtain ⟨kn, rfl⟩ : ∃ kn : Nat, k = (kn : Int) := ⟨k.toNat, by omega⟩
  have a1 : ∀ k : Fin 41, Builtin.Range.small 0 (k.val : Int) 2 = true := by decide +kernel
  have a2 : ∀ k : Fin 41, Builtin.Range.rangeSize 0 (k.val : Int) 2 = (((k.val + 1) / 2 : Nat) : Int) := by decide +kernel
  exact ⟨by decide, by decide, a1 ⟨kn, by omega⟩, by rw [Int.toNat_natCast]; exact a2 ⟨kn, by omega⟩⟩
section
variable {P : Program} {w : World} {K : PySem.W.Frag} {mg : Str → Option Value} {base : Heap}
abbrev s_law_t2_cells : Stmt := topS 44
abbrev n_law_t2_cells : List Str := ["_law_pen_here", "_law_most", "_law_way", "_law_many", "_law_wide", "_law_tall", "_law_comb", "_law_k", "_law_up"]
theorem sc_law_t2_cells : FnScope n_law_t2_cells ["_law_pen_here", "_law_most"] (defScope s_law_t2_cells) := ⟨rfl, rfl, rfl, by decide +kernel, rfl, by decide +kernel, by decide +kernel⟩
def spCells : Sp := fun vs H Q _ => ∃ (d c : Addr) (n : Nat) (m : Int), vs = [.ref d, .int m] ∧ PenAt H d c n ∧ 2 ≤ m ∧ m ≤ 60 ∧ n < 10000000 ∧ ∀ cs p H', Grow cs → (cs.length : Int) ≤ m → H p = none → Mv [d] H H' → PenAt H' d c (n + 1000) → Ls H' p cs → Q (.ref p) H'
theorem ok_law_cells (T : Txt K mg "_law_t2_cells" "_law_t2_cells" s_law_t2_cells ["_law_pen_here", "_law_most"]) (Z : Blt mg) (C_law_draw : Cal P w K mg base 1 "_law_draw" ["_law_pen_here", "_law_many"] spDraw) (C_law_t2_blob : Cal P w K mg base 3 "_law_t2_blob" ["_law_pen_here", "_law_many", "_law_taste"] spBlob)
    (C_law_t2_way : Cal P w K mg base 1 "_law_t2_way" ["_law_steps", "_law_turns"] spWay) : Cal P w K mg base 4 "_law_t2_cells" ["_law_pen_here", "_law_most"] spCells :=
  T.cal sc_law_t2_cells (fun vs H Q E ⟨d, c, n, m, e, _⟩ => by subst e; rfl) fun f cdv A outer s H vs Q E hr h => by
    obtain ⟨d, c, n, m, rfl, hp0, hm1, hm2, hn, q⟩ := h
    refine ⟨_, (pss_cons (ps_par (i := 2) (j := 3) rfl sc_law_t2_cells.nd rfl rfl (by decide) rfl rfl (pa_cons (pe_cal C_law_draw (hr.mono (by decide)) (pa_cons (pv 0) (pa_cons pe_int pa_nil))) (pa_cons (pe_op op_add pe_int (pe_cal C_law_draw (hr.mono (by decide)) (pa_cons (pv 0) (pa_cons (pv 1) pa_nil)))) pa_nil)) (by rfl))
      (pss_cons (ps_if (pt_cmpR op_lt (pv 2) pe_int (nomark _)) (pss_one (ps_ret (pe_cal C_law_t2_blob (hr.mono (by decide)) (pa_cons (pv 0) (pa_cons (pv 3) (pa_cons (pe_ix ix_list (pe_lst (pa_cons pe_int (pa_cons pe_int (pa_cons pe_int (pa_cons pe_int (pa_cons pe_int pa_nil)))))) (pv 2) (fun _ _ => rfl)) pa_nil)))))) pss_nil)
      (pss_cons (ps_if (pt_cmpR op_eq (pv 2) pe_int (nomark _)) (pss_one (ps_ret (pe_slice sl_list (pe_cal C_law_t2_way (hr.mono (by decide)) (pa_cons (pe_lst (pa_cons (pe_op op_sub (pv 3) pe_int) pa_nil)) (pa_cons (pe_cal C_law_draw (hr.mono (by decide)) (pa_cons (pv 0) (pa_cons pe_int pa_nil))) pa_nil))) po_none (po_some (pv 3))))) pss_nil)
      (pss_cons (ps_if (pt_cmpR op_eq (pv 2) pe_int (nomark _)) (pss_cons (ps_par (i := 4) (j := 5) rfl sc_law_t2_cells.nd rfl rfl (by decide) rfl rfl (pa_cons (pe_op op_add pe_int (pe_cal C_law_draw (hr.mono (by decide)) (pa_cons (pv 0) (pa_cons (pe_op op_add pe_int (pe_op op_fdiv (pv 1) pe_int)) pa_nil)))) (pa_cons (pe_op op_add pe_int (pe_cal C_law_draw (hr.mono (by decide)) (pa_cons (pv 0) (pa_cons (pe_op op_add pe_int (pe_op op_fdiv (pv 1) pe_int)) pa_nil)))) pa_nil)) (by rfl))
      (pss_one (ps_ret (pe_slice sl_list (pe_slice sl_list (pe_cal C_law_t2_way (hr.mono (by decide)) (pa_cons (pe_lst (pa_cons (pv 4) (pa_cons (pv 5) (pa_cons (pv 4) (pa_cons (pv 5) pa_nil))))) (pa_cons pe_int pa_nil))) po_none (po_some (pe_callB (call_max2 rfl) (by rfl) Z.max (by decide +kernel) (pa_cons pe_int (pa_cons (pe_op op_sub (pe_op op_mul pe_int (pe_op op_add (pv 4) (pv 5))) (pe_cal C_law_draw (hr.mono (by decide)) (pa_cons (pv 0) (pa_cons pe_int pa_nil)))) pa_nil))))) po_none (po_some (pv 1)))))) pss_nil)
      (pss_cons (ps_if (pt_cmpR op_eq (pv 2) pe_int (nomark _)) (pss_one (ps_ret (pe_slice sl_list (pe_cal C_law_t2_way (hr.mono (by decide)) (pa_cons (pe_lc (own := [("_law_k", 7)]) (g := gName 7) (tt := tYes) rfl sc_law_t2_cells.nd (pi_range1 (by rfl) Z.range (pa_cons (pv 1) pa_nil)) (blkOk_by (N := n_law_t2_cells) (sc := defScope s_law_t2_cells) (by decide +kernel)) (fun _ _ _ _ _ => (pg_name (i := 7) sc_law_t2_cells.nd rfl (Or.inl rfl))) (fun _ _ _ _ _ => pts_nil) (fun _ _ _ _ _ => (pe_op op_mul (pe_op op_fdiv (pe_op op_add (pv 7) pe_int) pe_int) pe_int))) (pa_cons pe_int pa_nil))) po_none (po_some (pv 3))))) pss_nil)
      (pss_cons (ps_setLc (i := 6) (own := [("_law_k", 7)]) (g := gName 7) (tt := tYes)  rfl sc_law_t2_cells.nd rfl rfl (sw_true rfl rfl rfl (by decide +kernel)) (pi_range1 (by rfl) Z.range (pa_cons (pe_op op_add pe_int (pe_op op_fdiv (pv 1) pe_int)) pa_nil)) (blkOk_by (N := n_law_t2_cells) (sc := defScope s_law_t2_cells) (by decide +kernel)) (fun _ _ _ _ _ => (pg_name (i := 7) sc_law_t2_cells.nd rfl (Or.inl rfl))) (fun _ _ _ _ _ => pts_nil) (fun _ _ _ _ _ => (pe_tup (pa_cons (pv 7) (pa_cons pe_int pa_nil)))))
      (pss_cons (ps_for PassesOwn.never rfl (pi_range3 (by rfl) Z.range (pa_cons pe_int (pa_cons (pe_op op_add pe_int (pe_op op_fdiv (pv 1) pe_int)) (pa_cons pe_int pa_nil)))) (pg_name (i := 7) sc_law_t2_cells.nd rfl (Or.inr rfl)) (pss_one (ps_set (i := 6) sc_law_t2_cells.nd rfl (Or.inl rfl) (pe_op op_cat (pv 6) (pe_lc (own := [("_law_up", 8)]) (g := gName 8) (tt := tYes) rfl sc_law_t2_cells.nd (pi_range1 (by rfl) Z.range (pa_cons (pe_cal C_law_draw (hr.mono (by decide)) (pa_cons (pv 0) (pa_cons pe_int pa_nil))) pa_nil)) (blkOk_by (N := n_law_t2_cells) (sc := defScope s_law_t2_cells) (by decide +kernel)) (fun _ _ _ _ _ => (pg_name (i := 8) sc_law_t2_cells.nd rfl (Or.inl rfl))) (fun _ _ _ _ _ => pts_nil) (fun _ _ _ _ _ => (pe_tup (pa_cons (pv 7) (pa_cons (pe_op op_add pe_int (pv 8)) pa_nil)))))))))
      (pss_one (ps_ret (pe_slice sl_list (pv 6) po_none (po_some (pe_callB (call_max2 rfl) (by rfl) Z.max (by decide +kernel) (pa_cons pe_int (pa_cons (pv 1) pa_nil)))))))))))))), ?_⟩
    refine ⟨.ref d, rfl, d, c, n, 9, rfl, hp0, by omega, by decide, by decide, fun wy H1 w0 w1 m1 p1 => ⟨.ref d, rfl, .int m, rfl, d, c, n + 1, m, rfl, p1, by omega, by omega, by omega, fun mn H2 a0 a1 m2 p2 => ⟨1, mn, rfl, rfl, .int wy, .int (1 + mn), rfl, ?_⟩⟩⟩
    have m12 : Mv [d] H H2 := m1.tr m2
    have fin : ∀ p H' cs (_ : Grow cs) (k : Int), 1 ≤ k → k ≤ m → H p = none → Mv [d] H H' → PenAt H' d c (n + 1000) → Ls H' p (cut cs none (some k)) → Q (.ref p) H' := fun p H' cs hg k k1 k2 np mm pp hl => by
      rw [cut_none (by omega)] at hl
      refine q (cs.take k.toNat) p H' (hg.take (by omega)) ?_ np mm pp hl
      have := List.length_take_le k.toNat cs
      omega
    refine q_ifN (eb_test (ev_C (i := wy) (ev_var rfl rfl) ev_int)) (fun hb H3 e3 => ?_) fun hb H3 e3 => ?_
    · have hw := of_decide_eq_true hb
      obtain ⟨wn, rfl⟩ : ∃ wn : Nat, wy = (wn : Int) := ⟨wy.toNat, by omega⟩
      obtain ⟨t, ht⟩ : ∃ t, [(0 : Int), 0, 1, 1, 2][wn]? = some t := ⟨_, List.getElem?_eq_getElem (by simp only [List.length_cons, List.length_nil]; omega)⟩
      refine et_call (ea_cons (P := va (.ref d)) (ev_vr rfl) (ea_cons (P := en (1 + mn)) (ev_var rfl rfl) (ea_cons (P := en t) (ev_ixL (en_lst (xs := [(0 : Int), 0, 1, 1, 2]) (ea_cons ev_int (ea_cons ev_int (ea_cons ev_int (ea_cons ev_int (ea_cons ev_int ea_nil)))))).li (ev_var rfl rfl) (atI_nat ht)) ea_nil))) fun vs H4 e4 hvs => ?_
      obtain ⟨z1, z2, z3, rfl, y1, y2, y3⟩ := al3 hvs
      obtain rfl : z1 = .ref d := y1
      obtain rfl : z2 = .int (1 + mn) := y2
      obtain rfl : z3 = .int t := y3
      have m4 := (m12.ex e3).ex e4
      exact ⟨d, c, n + 2, 1 + mn, t, rfl, (p2.up (e3.tr e4)), by omega, by omega, by omega, fun cs p H5 hg hl np m5 p5 hc => q cs p H5 hg (by omega) ((p2.up (e3.tr e4)).fresh m4 np) (m4.tr m5) (p5.more (by omega)) hc⟩
    refine q_ifN (eb_test (ev_eqI (i := wy) (ev_var rfl rfl) ev_int)) (fun hb2 H4 e4 => ?_) fun hb2 H4 e4 => ?_
    · -- a straight line
      refine raw_ret (raw_sl (raw_call (raw_cons ((en_lst (xs := [1 + mn - 1]) (ea_cons (ev_I (i := 1 + mn) (ev_var rfl rfl) ev_int) ea_nil) (Nat.le_of_ble_eq_true rfl)) H4 Ex.same _ fun pl H5 n5 e5 hl => raw_cons (raw_draw (m := 4) (p2.up ((e3.tr e4).tr e5)) (by omega) rfl ev_int (by decide) (by decide) fun t H6 t0 t1 m6 p6 => ?_)))))
      have hl6 := hl.mv (mem1 ((p2.up ((e3.tr e4).tr e5)).ne hl)) m6
      refine ⟨.ref pl, .int t, li [1 + mn - 1], en t, liX Grow, rfl, ⟨_, t, rfl, rfl, (Nat.le_of_ble_eq_true rfl), fun k hk => ?_, rfl⟩, ⟨pl, rfl, hl6⟩, rfl, fun p H7 n7 n7' e7 ⟨cs, hg, hc⟩ => ?_⟩
      · rw [List.mem_singleton.mp hk]
        omega
      · replace hc := li_at hc
        refine raw_nopart (raw_part ⟨.int (1 + mn), rfl, 1 + mn, rfl, sl_at hc fun z H8 nz e8 hz => ?_⟩)
        have mm := (((((m12.ex e3).ex e4).ex e5).tr m6).ex e7)
        have pp := (p6.up e7)
        exact fin z H8 cs hg (1 + mn) (by omega) (by omega) (pp.fresh mm nz) (mm.ex e8) ((pp.up e8).more (by omega)) hz
    refine q_ifN (eb_test (ev_eqI (i := wy) (ev_var rfl rfl) ev_int)) (fun hb3 H5 e5 => ?_) fun hb3 H5 e5 => ?_
    · -- a ring
      have e25 := (e3.tr e4).tr e5
      have hdr : ∀ {s : TSt} {H}, s[1]? = some (some (.int m)) → EvP (tOp (rI0 fun i j => V.int (i + j)) (tC (.int 1)) (tOp (rI CDiv fun i j => V.int (i / j)) (tVar 1) (tC (.int 6)))) s H (en (1 + m / 6)) := fun hs => ev_I ev_int (ev_Ic (i := m) (ev_var hs rfl) ev_int ⟨by decide, by decide⟩)
      refine raw_par (raw_cons (raw_op (raw_c (raw_draw (p2.up e25) (by omega) rfl (hdr rfl) (by omega) (by omega) fun x1 H6 x10 x11 m6 p6 => ⟨2, x1, rfl, rfl, raw_cons (raw_op (raw_c (raw_draw p6 (by omega) rfl (hdr rfl) (by omega) (by omega) fun x2 H7 x20 x21 m7 p7 => ⟨2, x2, rfl, rfl, ⟨_, _, rfl, ?_⟩⟩)))⟩))))
      refine raw_ret (raw_sl (raw_sl (raw_call (raw_cons ((en_lst (xs := [2 + x1, 2 + x2, 2 + x1, 2 + x2]) (ea_cons (ev_var rfl rfl) (ea_cons (ev_var rfl rfl) (ea_cons (ev_var rfl rfl) (ea_cons (ev_var rfl rfl) ea_nil)))) (Nat.le_of_ble_eq_true rfl)) H7 Ex.same _ fun pl H8 n8 e8 hl => raw_cons (raw_c ?_))))))
      refine ⟨.ref pl, .int 1, li [2 + x1, 2 + x2, 2 + x1, 2 + x2], en (1 : Int), liX Grow, rfl, ⟨_, 1, rfl, rfl, (Nat.le_of_ble_eq_true rfl), fun k hk => ?_, rfl⟩, ⟨pl, rfl, hl⟩, rfl, fun p H9 n9 n9' e9 ⟨cs, hg, hc⟩ => ?_⟩
      · simp only [List.mem_cons, List.not_mem_nil, or_false] at hk
        omega
      · replace hc := li_at hc
        refine raw_nopart (raw_part (raw_CB (raw_cons (raw_c (raw_cons (raw_op ((ev_Ic (i := 2) (j := (2 + x1) + (2 + x2)) ev_int (ev_I (i := 2 + x1) (j := 2 + x2) (ev_var rfl rfl) (ev_var rfl rfl)) (.inl (by decide))) H9 Ex.same _ fun v H10 e10 hv => raw_draw (m := 3) (p7.up ((e8.tr e9).tr e10)) (by omega) rfl ev_int (by decide) (by decide) fun x3 H11 x30 x31 m11 p11 => ⟨_, x3, hv, rfl, 2, _, rfl, ?_⟩)))))))
        have hcp := (p7.up ((e8.tr e9).tr e10)).ne (hc.up e10)
        have hc11 := (hc.up e10).mv (mem1 hcp) m11
        have mm := (((((((m12.ex e25).tr m6).tr m7).ex e8).ex e9).ex e10).tr m11)
        refine ⟨_, rfl, sl_at hc11 fun z H12 nz e12 hz => raw_nopart (raw_part ⟨.int m, rfl, m, rfl, sl_at hz fun z2 H13 nz2 e13 hz2 => ?_⟩)⟩
        refine fin z2 H13 _ ?_ m (by omega) (by omega) (p11.fresh mm (e12.back nz2)) ((mm.ex e12).ex e13) ((p11.up (e12.tr e13)).more (by omega)) hz2
        rw [cut_none (by split <;> omega)]
        exact hg.take (by split <;> omega)
    refine q_ifN (eb_test (ev_eqI (i := wy) (ev_var rfl rfl) ev_int)) (fun hb4 H6 e6 => ?_) fun hb4 H6 e6 => ?_
    · -- a spiral
      have e26 := ((e3.tr e4).tr e5).tr e6
      refine raw_ret (raw_sl (raw_call (raw_cons ((en_lcR1 (n := m) (p := fun _ => true) (f := fun k : Int => (k + 2) / 2 * 2) (ea_cons (ev_var rfl rfl) ea_nil) (by omega) (by omega) fun x H'' hx e'' => ⟨eb_yes, fun _ => ev_Ic (ev_Ic (ev_I (i := x) (ev_var rfl rfl) ev_int) ev_int ⟨by decide, by decide⟩) ev_int (.inr (by decide))⟩) H6 Ex.same _ fun pl H7 n7 e7 hl => raw_cons (raw_c ?_)))))
      refine ⟨.ref pl, .int 1, li _, en (1 : Int), liX Grow, rfl, ⟨_, 1, rfl, rfl, ?_, fun k hk => ?_, rfl⟩, ⟨pl, rfl, hl⟩, rfl, fun p H9 n9 n9' e9 ⟨cs, hg, hc⟩ => ?_⟩
      · rw [List.length_map]
        refine Nat.le_trans (List.length_filter_le _ _) ?_
        rw [rng_len]
        omega
      · obtain ⟨x, hx, rfl⟩ := List.mem_map.mp hk
        obtain ⟨h1, h2⟩ := mem_rng.mp (List.mem_filter.mp hx).1
        omega
      · replace hc := li_at hc
        refine raw_nopart (raw_part ⟨.int (1 + mn), rfl, 1 + mn, rfl, sl_at hc fun z H8 nz e8 hz => ?_⟩)
        have mm := (((m12.ex e26).ex e7).ex e9)
        have pp := p2.up ((e26.tr e7).tr e9)
        exact fin z H8 cs hg (1 + mn) (by omega) (by omega) (pp.fresh mm nz) (mm.ex e8) ((pp.up e8).more (by omega)) hz
    · -- a comb
      have e26 := ((e3.tr e4).tr e5).tr e6
      have p26 := p2.up e26
      have hrow : (((rng 0 (1 + m / 3).toNat).filter fun _ => true).map fun k : Int => (k, (0 : Int))) = (rng 0 ((m / 3).toNat + 1)).map fun k => (k, (0 : Int)) := by
        rw [List.filter_eq_self.mpr fun _ _ => rfl, show (1 + m / 3).toNat = (m / 3).toNat + 1 by omega]
      have hbd : ∀ {s : TSt} {H}, s[1]? = some (some (.int m)) → EvP (tOp (rI0 fun i j => V.int (i + j)) (tC (.int 1)) (tOp (rI CDiv fun i j => V.int (i / j)) (tVar 1) (tC (.int 3)))) s H (en (1 + m / 3)) := fun hs => ev_I ev_int (ev_Ic (i := m) (ev_var hs rfl) ev_int ⟨by decide, by decide⟩)
      refine q_asgN ((en_lcR1 (n := 1 + m / 3) (p := fun _ => true) (f := fun k : Int => (k, (0 : Int))) (ea_cons (hbd rfl) ea_nil) (by omega) (by omega) fun x H'' hx e'' => ⟨eb_yes, fun _ => ev_pair (ev_var rfl rfl) ev_int⟩).is hrow) fun p6 H7 n7 e7 h6 => ?_
      have mm7 := (m12.ex e26).ex e7
      refine q_forR3 (lo := 0) (hi := 1 + m / 3) (st := 2) (n := ((1 + m / 3).toNat + 1) / 2) (ea_cons ev_int (ea_cons (hbd rfl) (ea_cons ev_int ea_nil))) (rgc2 (by omega) (by omega)) fun H8 e8 => ⟨fun i s' H' => ∃ pc u7 cs, s' = [some (.ref d), some (.int m), some (.int wy), some (.int (1 + mn)), none, none, some (.ref pc), u7, none] ∧ Mv [d] H8 H' ∧ PenAt H' d c (n + 2 + i) ∧ H p6 = none ∧ H pc = none ∧ Ls H' pc cs ∧ Grow cs ∧ (∀ j : Nat, (j : Int) < 1 + m / 3 → ((j : Int), (0 : Int)) ∈ cs) ∧ cs.length ≤ 100 + 4 * i,
        ⟨p6, _, _, rfl, Mv.same, p26.up (e7.tr e8), p26.fresh (m12.ex e26) n7, p26.fresh (m12.ex e26) n7, h6.up e8, row_grow _, fun j hj => List.mem_map.mpr ⟨_, mem_rng.mpr ⟨by omega, by omega⟩, rfl⟩, ?_⟩, fun i s' H' hi ⟨pc, u7, cs, es, mm, pp, _, npc, hc, hg, hin, hl⟩ => ?_, fun s' H' ⟨pc, u7, cs, es, mm, pp, _, npc, hc, hg, hin, hl⟩ => ?_⟩
      · rw [List.length_map, rng_len]
        omega
      · subst es
        have hk := hin (2 * i) (by omega)
        refine raw_asg (raw_op ⟨.ref pc, rfl, ?_⟩)
        refine raw_draw (m := 4) pp (by omega) rfl ev_int (by decide) (by decide) fun x H9 x0 x1 m9 p9 => ?_
        have hc9 := hc.mv (mem1 (pp.ne hc)) m9
        have mm9 := mm.tr m9
        have hrng : (((rng 0 x.toNat).filter fun _ => true).map fun up : Int => ((0 : Int) + (i : Int) * 2, 1 + up)) = (rng 0 x.toNat).map fun up => ((0 : Int) + (i : Int) * 2, 1 + up) := by
          rw [List.filter_eq_self.mpr fun _ _ => rfl]
        refine (en_cat (ta := tC (.ref pc)) (xs := cs) (ys := (rng 0 x.toNat).map fun up => ((0 : Int) + (i : Int) * 2, 1 + up)) (ev_cst ⟨pc, rfl, hc9⟩) ((en_lcR1 (tr := tCons (tC (.int x)) tNil) (n := x) (p := fun _ => true) (f := fun up : Int => ((0 : Int) + (i : Int) * 2, 1 + up)) (ea_cons ev_int ea_nil) (by omega) (by omega) fun y H'' hy e'' =>
          ⟨eb_yes, fun _ => ev_pair (ev_var rfl rfl) (ev_I (j := y) ev_int (ev_var rfl rfl))⟩).is hrng).li (by rw [List.length_map, rng_len]; omega)) H9 Ex.same _ fun p10 H10 n10 e10 h10 => ?_
        refine ⟨p10, _, _, rfl, mm9.ex e10, p9.up e10, ‹_›, p9.fresh ((mm7.ex e8).tr mm9) n10, h10, (tooth_grow hg (k := (0 : Int) + (i : Int) * 2) ?_ x.toNat).1, fun j hj => List.mem_append_left _ (hin j hj), ?_⟩
        · rw [show ((0 : Int) + (i : Int) * 2) = ((2 * i : Nat) : Int) by omega]
          exact hk
        · rw [List.length_append, List.length_map, rng_len]
          omega
      · subst es
        refine raw_ret (raw_sl ⟨.ref pc, rfl, raw_nopart (raw_part (raw_CB (raw_cons (raw_c (raw_cons ⟨.int m, rfl, 1, m, rfl, _, rfl, sl_at hc fun z H12 nz e12 hz => ?_⟩)))))⟩)
        have mmz := (mm7.ex e8).tr mm
        rw [if_pos (show m > 1 by omega)] at hz
        exact fin z H12 cs hg m (by omega) (by omega) (pp.fresh mmz nz) (mmz.ex e12) ((pp.up e12).more (by omega)) hz
end
end TB
set_option Elab.async false
set_option linter.all false
set_option maxRecDepth 100000
set_option maxHeartbeats 4000000
/-! D13: body, plan. -/
namespace TB
open PySem PySem.Spec PyProof.Rows L2
theorem Reach.map {S T : Cell → Prop} {f : Cell → Cell} (h1 : ∀ x, S x → T (f x)) (h2 : ∀ x y, y ∈ nbs x → f y ∈ nbs (f x)) {x y : Cell} (h : Reach S x y) : Reach T (f x) (f y) := by
  induction h with
  | refl h => exact .refl (h1 _ h)
  | step _ a s ih => exact .step ih (h2 _ _ a) (h1 _ s)
theorem Grow.hang {cs : List Cell} (h : Grow cs) : Hang cs := by
  induction h with
  | one =>
    refine hang_of List.mem_cons_self fun x hx => ?_
    rw [List.mem_singleton.mp hx]
    exact .refl List.mem_cons_self
  | @more cs x y g hx hy ih =>
    rcases hy with hy | hy
    · refine hang_of (c := x) (List.mem_append_left _ hx) fun z hz => ?_
      rcases List.mem_append.mp hz with h | h
      · exact (ih.2 x hx z h).wide fun a ha => List.mem_append_left _ ha
      · rw [List.mem_singleton.mp h]
        exact .step (.refl (List.mem_append_left _ hx)) hy (List.mem_append_right _ List.mem_cons_self)
    · refine ih.perm fun z => ?_
      rw [List.mem_append, List.mem_singleton]
      exact ⟨.inl, fun h => h.elim id fun e => by rw [e]; exact hy⟩
theorem Hang.map {cs : List Cell} {f : Cell → Cell} (h : Hang cs) (h2 : ∀ x y, y ∈ nbs x → f y ∈ nbs (f x)) : Hang (cs.map f) := by
  refine ⟨fun e => h.1 (List.map_eq_nil_iff.mp e), fun x hx y hy => ?_⟩
  obtain ⟨a, ha, rfl⟩ := List.mem_map.mp hx
  obtain ⟨b, hb, rfl⟩ := List.mem_map.mp hy
  exact (h.2 a ha b hb).map (fun z hz => List.mem_map.mpr ⟨z, hz, rfl⟩) h2
def moved (t : Bool) (b : Cell) (x : Cell) : Cell := if t = true then (x.2 + b.1, x.1 + b.2) else (x.1 + b.1, x.2 + b.2)
theorem moved_nbs {t : Bool} {b x y : Cell} (h : y ∈ nbs x) : moved t b y ∈ nbs (moved t b x) := by
  obtain ⟨b1, b2⟩ := b
  obtain ⟨x1, x2⟩ := x
  obtain ⟨y1, y2⟩ := y
  simp only [nbs, List.mem_cons, Prod.mk.injEq, List.not_mem_nil, or_false] at h
  cases t
  · simp only [moved, nbs, Bool.false_eq_true, if_false, List.mem_cons, Prod.mk.injEq, List.not_mem_nil, or_false]
    omega
  · simp only [moved, nbs, if_true, List.mem_cons, Prod.mk.injEq, List.not_mem_nil, or_false]
    omega
theorem raw_tup {t : TA} {s : TSt} {H : Hp} {Q : VK} (h : t s H fun xs H1 => xs.length ≤ sizeLine ∧ ∀ p, H1 p = none → Q (.ref p) (upd H1 p (.tup xs))) : tTup t s H Q := h
section
variable {K : PySem.W.Frag} {s : TSt} {H : Hp} {D : Ends} {u tu tw : TS} {t1 t3 : TT}
/-- if a and (a draw): -/
theorem q_if2 {d c : Addr} {n : Nat} {b1 : Bool} (hp : PenAt H d c n) (h1 : EvB t1 s H b1) (h3 : ∀ H1, Ex H H1 → ∀ Q : Bool → Hp → Prop, (∀ b H2, Mv [d] H1 H2 → PenAt H2 d c (n + 1) → Q b H2) → t3 s H1 Q)
    (yes : b1 = true → ∀ H2, Mv [d] H H2 → PenAt H2 d c (n + 1) → tu { D with nx := u D } s H2) (no : ∀ H2, Mv [d] H H2 → PenAt H2 d c (n + 1) → u D s H2) : tSeq (tIfS (tAnd t1 t3) tu tNext) u D s H :=
  h1 H Ex.same _ fun H1 e1 => by
    cases b1 with
    | false => exact no H1 (Mv.same.ex e1) ((hp.up e1).more (Nat.le_succ n))
    | true =>
      show t3 s H1 _
      refine h3 H1 e1 _ fun b H3 m3 p3 => ?_
      have mm := (Mv.same.ex e1).tr m3
      cases b with
      | true => exact yes rfl H3 mm p3
      | false => exact no H3 mm p3
/-- xs.append(one of the items) -/
theorem q_appPick {α : Type} [DecidableEq α] [Enc α] {d c l px : Addr} {n i j k : Nat} {E : XK} {xs fx : List α} (hl : Ls H l xs) (hil : s[i]? = some (some (.ref l))) (hd : s[j]? = some (some (.ref d))) (hx : s[k]? = some (some (.ref px))) (hp : PenAt H d c n) (hn : n < 1000000000) (hf : Ls H px fx) (hne : fx ≠ []) (hfl : fx.length < 1000000) (hz : xs.length < 1000000)
    (hld : l ≠ d) (kk : ∀ x u Ha Hb, x ∈ fx → Mv [d] H Ha → PenAt Ha d c (n + 1) → En Ha u x → Bt l Ha Hb → Ls Hb l (xs ++ [x]) → tw D s Hb) : tSeq (tDrop (tBM K "list" rAppend (tVar i) (tCons (tCall spPick [] E (tCons (tVar j) (tCons (tVar k) tNil))) tNil))) tw D s H := by
  refine ⟨.ref l, hil, .inl ⟨rfl, by
    obtain ⟨us, z1, _⟩ := hl
    exact ⟨us, .inl (.inl z1)⟩⟩, .ref d, hd, .ref px, hx, α, inferInstance, inferInstance, fx, d, c, n, .ref px, rfl, hp, hn, ⟨px, rfl, hf⟩, hne, hfl, fun x u Ha hx ma pa hu => ?_⟩
  obtain ⟨us, g1, g2⟩ := hl.mv (mem1 hld) ma
  have bt : Bt l Ha (upd Ha l (.lst (us ++ [u]))) := ⟨Tu.mutL g1, fun q hq => upd_ne hq⟩
  exact ⟨l, us, u, rfl, rfl, g1, by rw [g2.length]; exact sz_lt (by omega), kk x u Ha _ hx ma pa hu bt ⟨_, upd_same, paired_app (paired_map g2 fun _ _ z => Enc.mono bt.tu z) (.cons (Enc.mono bt.tu hu) .nil)⟩⟩
end
section
variable {P : Program} {w : World} {K : PySem.W.Frag} {mg : Str → Option Value} {base : Heap}
abbrev s_law_t2_body : Stmt := topS 45
abbrev n_law_t2_body : List Str := ["_law_pen_here", "_law_most", "_law_far", "_law_cells", "_law_by", "_law_is_turned", "_law_found", "_law_column", "_law_row"]
theorem sc_law_t2_body : FnScope n_law_t2_body ["_law_pen_here", "_law_most"] (defScope s_law_t2_body) := ⟨rfl, rfl, rfl, by decide +kernel, rfl, by decide +kernel, by decide +kernel⟩
def spBody : Sp := fun vs H Q _ => ∃ (d c : Addr) (n : Nat) (m : Int), vs = [.ref d, .int m] ∧ PenAt H d c n ∧ 2 ≤ m ∧ m ≤ 60 ∧ n < 1000000 ∧ ∀ b v H', Hang b → b.Nodup → (b.length : Int) ≤ m → Mv [d] H H' → PenAt H' d c (n + 2000) → En H' v b → Q v H'
theorem ok_law_body (T : Txt K mg "_law_t2_body" "_law_t2_body" s_law_t2_body ["_law_pen_here", "_law_most"]) (Z : Blt mg) (C_law_draw : Cal P w K mg base 1 "_law_draw" ["_law_pen_here", "_law_many"] spDraw) (C_law_pick : Cal P w K mg base 2 "_law_pick" ["_law_pen_here", "_law_some"] spPick)
    (C_law_t2_cells : Cal P w K mg base 4 "_law_t2_cells" ["_law_pen_here", "_law_most"] spCells) : Cal P w K mg base 5 "_law_t2_body" ["_law_pen_here", "_law_most"] spBody :=
  T.cal sc_law_t2_body (fun vs H Q E ⟨d, c, n, m, e, _⟩ => by subst e; rfl) fun f cdv A outer s H vs Q E hr h => by
    obtain ⟨d, c, n, m, rfl, hp0, hm1, hm2, hn, q⟩ := h
    refine ⟨_, (pss_cons (ps_par (i := 2) (j := 3) rfl sc_law_t2_body.nd rfl rfl (by decide) rfl rfl (pa_cons (pe_cal C_law_pick (hr.mono (by decide)) (pa_cons (pv 0) (pa_cons (pe_lst (pa_cons pe_int (pa_cons pe_int (pa_cons pe_int (pa_cons (pe_op op_pow pe_int pe_int) pa_nil))))) pa_nil))) (pa_cons (pe_cal C_law_t2_cells (hr.mono (by decide)) (pa_cons (pv 0) (pa_cons (pv 1) pa_nil))) pa_nil)) (by rfl))
      (pss_cons (ps_par (i := 4) (j := 5) rfl sc_law_t2_body.nd rfl rfl (by decide) rfl rfl (pa_cons (pe_tup (pa_cons (pe_op op_mul (pe_op op_sub (pe_cal C_law_draw (hr.mono (by decide)) (pa_cons (pv 0) (pa_cons pe_int pa_nil))) pe_int) (pv 2)) (pa_cons (pe_op op_mul (pe_op op_sub (pe_cal C_law_draw (hr.mono (by decide)) (pa_cons (pv 0) (pa_cons pe_int pa_nil))) pe_int) (pv 2)) pa_nil))) (pa_cons (pe_cmpR op_eq (pe_cal C_law_draw (hr.mono (by decide)) (pa_cons (pv 0) (pa_cons pe_int pa_nil))) pe_int (nomark _)) pa_nil)) (by rfl))
      (pss_cons (ps_set (i := 6) sc_law_t2_body.nd rfl (Or.inl rfl) (pe_lst pa_nil))
      (pss_cons (ps_for PassesOwn.never rfl (pi_list (pv 3)) (pg_tup rfl (pgs_cons (pg_name (i := 7) sc_law_t2_body.nd rfl (Or.inl rfl)) (pgs_cons (pg_name (i := 8) sc_law_t2_body.nd rfl (Or.inl rfl)) pgs_nil))) (pss_one (ps_expr (pe_bm PySem.F.plainAttrs_list PySem.F.slot_list_append PySem.F.type_list_append mt_append (pv 6) (pa_cons (pe_ifExp (pt_val (pv 5)) (pe_tup (pa_cons (pe_op op_add (pv 8) (pe_ix ix_tup (pv 4) pe_int (fun _ _ => rfl))) (pa_cons (pe_op op_add (pv 7) (pe_ix ix_tup (pv 4) pe_int (fun _ _ => rfl))) pa_nil))) (pe_tup (pa_cons (pe_op op_add (pv 7) (pe_ix ix_tup (pv 4) pe_int (fun _ _ => rfl))) (pa_cons (pe_op op_add (pv 8) (pe_ix ix_tup (pv 4) pe_int (fun _ _ => rfl))) pa_nil)))) pa_nil)))))
      (pss_one (ps_ret (pe_callTy call_tuple_of (by rfl) Z.tuple (by decide +kernel) (pa_cons (pe_callB (cr_sortSet rfl (ru64 hr)) (by rfl) Z.sorted (by decide +kernel) (pa_cons (pe_callTy (cr_setOfT rfl (ru64 hr)) (by rfl) Z.set (by decide +kernel) (pa_cons (pv 6) pa_nil)) pa_nil)) pa_nil)))))))), ?_⟩
    refine raw_par (raw_cons (raw_call (raw_cons ⟨.ref d, rfl, raw_cons ((en_lst (xs := [0, 0, 1, 10 ^ (15 : Int).toNat]) (ea_cons ev_int (ea_cons ev_int (ea_cons ev_int (ea_cons (ev_Ic ev_int ev_int ⟨by decide, by decide, by decide⟩) ea_nil)))) (Nat.le_of_ble_eq_true rfl)) H Ex.same _ fun pl H1 n1 e1 hl => ?_)⟩)))
    refine ⟨Int, inferInstance, inferInstance, [0, 0, 1, 10 ^ (15 : Int).toNat], d, c, n, .ref pl, rfl, hp0.up e1, by omega, ⟨pl, rfl, hl⟩, List.cons_ne_nil _ _, (Nat.lt_of_le_of_lt (Nat.le_of_ble_eq_true rfl : _ ≤ 4) (by decide)), fun far vf H2 hfar m2 p2 hvf => ?_⟩
    obtain rfl : vf = .int far := hvf
    refine raw_cons (raw_call ⟨.ref d, rfl, .int m, rfl, d, c, n + 1, m, rfl, p2, hm1, hm2, by omega, fun cs pc H3 hg hcl nc m3 p3 hcs => ⟨_, _, rfl, ?_⟩⟩)
    have hw : ∀ {H s}, EvP (tVar 2) s H (en far) → True := fun _ => trivial
    refine raw_par (raw_cons (raw_tup (raw_cons (raw_op (raw_op (raw_draw (m := 9) p3 (by omega) rfl ev_int (by decide) (by decide) fun x1 H4 x10 x11 m4 p4 => raw_c ⟨x1, 4, rfl, rfl, .int far, rfl, x1 - 4, far, rfl, rfl, .inl (by omega), ?_⟩))))))
    refine raw_cons (raw_op (raw_op (raw_draw (m := 9) p4 (by omega) rfl ev_int (by decide) (by decide) fun x2 H5 x20 x21 m5 p5 => raw_c ⟨x2, 4, rfl, rfl, .int far, rfl, x2 - 4, far, rfl, rfl, .inl (by omega), ⟨(by show 2 ≤ sizeLine; decide), fun pb nb => ?_⟩⟩)))
    have eb := Ex.new (o := HO.tup [V.int ((x1 - 4) * far), V.int ((x2 - 4) * far)]) nb
    have hby : En (upd H5 pb (.tup [V.int ((x1 - 4) * far), V.int ((x2 - 4) * far)])) (.ref pb) (((x1 - 4) * far, (x2 - 4) * far) : Cell) := ⟨pb, _, _, rfl, upd_same, rfl, rfl⟩
    refine raw_cons (raw_op (raw_draw (m := 2) (p5.up eb) (by omega) rfl ev_int (by decide) (by decide) fun x3 H6 x30 x31 m6 p6 => raw_c ⟨rfl, ⟨_, _, rfl, ?_⟩⟩))
    rw [show decide (V.int x3 = V.int 0) = decide (x3 = 0) from dec_V_int]
    have hby6 := en_mv hby m6
    have hcs6 : Ls H6 pc cs := (((hcs.mv (mem1 (p3.ne hcs)) (m4.tr m5)).up eb).mv (mem1 (p3.ne hcs)) m6)
    have mm6 : Mv [d] H H6 := (((((((Mv.same.ex e1).tr m2).tr m3).tr m4).tr m5).ex eb).tr m6)
    generalize (((x1 - 4) * far, (x2 - 4) * far) : Cell) = by' at hby6
    generalize decide (x3 = 0) = turned
    refine q_asgN (en_nil (α := Cell)) fun pf H7 nf e7 hf => ?_
    have hpcf : pc ≠ pf := hcs6.ne_new nf
    refine q_forA [pf] (hcs6.up e7) (ev_vr rfl) (mem1 hpcf) fun H8 e8 => ⟨fun i s' H' => ∃ u7 u8, s' = [some (.ref d), some (.int m), some (.int far), some (.ref pc), some (.ref pb), some (.bl turned), some (.ref pf), u7, u8] ∧ Mv [pf] H8 H' ∧ Ls H' pf ((cs.take i).map (moved turned by')), ⟨_, _, rfl, Mv.same, hf.up e8⟩, fun i s' H' ⟨_, _, _, mm, _⟩ => mm, fun i x v s' H' hx hv ⟨u7, u8, es, mm, hfi⟩ => ?_, fun s' H' ⟨u7, u8, es, mm, hfi⟩ => ?_⟩
    · subst es
      refine g_pair hv fun w1 w2 k1 k2 => ?_
      have hby' : En H' (.ref pb) by' := en_mv (en_up (e7.tr e8) hby6) mm
      refine s_app' (x := moved turned by' x) hfi (ev_vr rfl) (ev_if (b := turned) (eb_B (ev_var rfl rfl)) (fun hb => ?_) fun hb => ?_) (by
        rw [List.length_map]
        have := List.length_take_le' i cs
        omega) fun H9 e9 H10 b10 hf10 => ⟨_, _, rfl, (mm.ex e9).but b10 (.inl List.mem_cons_self), ?_⟩
      · unfold moved
        rw [if_pos hb]
        exact ev_pair (ev_I (ev_var rfl k2) (ev_fst (ev_var rfl hby'))) (ev_I (ev_var rfl k1) (ev_snd (ev_var rfl hby')))
      · unfold moved
        rw [if_neg (by rw [hb]; exact Bool.false_ne_true)]
        exact ev_pair (ev_I (ev_var rfl k1) (ev_fst (ev_var rfl hby'))) (ev_I (ev_var rfl k2) (ev_snd (ev_var rfl hby')))
      · rw [take_snoc hx, List.map_append]
        exact hf10
    · subst es
      rw [List.take_length] at hfi
      have hlen : ((cs.map (moved turned by')).length : Int) ≤ m := by
        rw [List.length_map]
        exact hcl
      refine s_ret (ev_tupleL rfl (en_sortS (ev_setL (ev_li rfl hfi) (by omega))).li) fun v H9 e9 hv => ?_
      have hmv : Mv [d] H H' := ((mm6.ex e7).ex e8).trw mm fun a ha => by
        rw [List.mem_singleton.mp ha]
        exact .inr (p6.fresh mm6 nf)
      refine q (sset (cs.map (moved turned by'))) v H9 ((hg.hang.map (f := moved turned by') fun x y => moved_nbs).perm fun x => mem_sset.symm) sset_nodup ?_ (hmv.ex e9) (((p6.up (e7.tr e8)).mv mm (mem1 (p6.new nf).1) (mem1 (p6.new nf).2)).up e9 |>.more (by omega)) hv
      have := nodup_len (xs := sset (cs.map (moved turned by'))) (ys := cs.map (moved turned by')) sset_nodup fun x hx => mem_sset.mp hx
      omega
abbrev s_law_t2_plan : Stmt := topS 54
abbrev n_law_t2_plan : List Str := ["_law_pen_here", "_law_body", "_law_many", "_law_plan", "_law_bodies", "_law_lap", "_law_moves", "_law_same", "_law_move"]
theorem sc_law_t2_plan : FnScope n_law_t2_plan ["_law_pen_here", "_law_body", "_law_many"] (defScope s_law_t2_plan) := ⟨rfl, rfl, rfl, by decide +kernel, rfl, by decide +kernel, by decide +kernel⟩
def spPlan : Sp := fun vs H Q _ => ∃ (d c : Addr) (n : Nat) (v2 : V) (b : List Cell) (m : Int), vs = [.ref d, v2, .int m] ∧ PenAt H d c n ∧ En H v2 b ∧ b.length ≤ 1000 ∧ 0 ≤ m ∧ m ≤ 100 ∧ n < 1000000 ∧ ∀ pl v H', okPlan b pl = true → (pl.length : Int) ≤ m → Mv [d] H H' → PenAt H' d c (n + 300) → (prP (li pl) (li (bods b pl))).p H' v → Q v H'
theorem ok_law_plan (T : Txt K mg "_law_t2_plan" "_law_t2_plan" s_law_t2_plan ["_law_pen_here", "_law_body", "_law_many"]) (Z : Blt mg) (C_law_draw : Cal P w K mg base 1 "_law_draw" ["_law_pen_here", "_law_many"] spDraw) (C_law_pick : Cal P w K mg base 2 "_law_pick" ["_law_pen_here", "_law_some"] spPick)
    (C_law_t2_moves : Cal P w K mg base 5 "_law_t2_moves" ["_law_body"] spMoves) (C_law_t2_done : Cal P w K mg base 1 "_law_t2_done" ["_law_body", "_law_start", "_law_end"] spDone) : Cal P w K mg base 6 "_law_t2_plan" ["_law_pen_here", "_law_body", "_law_many"] spPlan :=
  T.cal sc_law_t2_plan (fun vs H Q E ⟨d, c, n, v2, b, m, e, _⟩ => by subst e; rfl) fun f cdv A outer s H vs Q E hr h => by
    obtain ⟨d, c, n, vb, b, m, rfl, hp0, hb, hbl, hm0, hm1, hn, q⟩ := h
    refine ⟨_, (pss_cons (ps_asg (pe_tup (pa_cons (pe_lst pa_nil) (pa_cons (pe_lst (pa_cons (pv 1) pa_nil)) pa_nil))) (pg_tup rfl (pgs_cons (pg_name (i := 3) sc_law_t2_plan.nd rfl (Or.inr rfl)) (pgs_cons (pg_name (i := 4) sc_law_t2_plan.nd rfl (Or.inl rfl)) pgs_nil))))
      (pss_cons (ps_for PassesOwn.never rfl (pi_range1 (by rfl) Z.range (pa_cons (pv 2) pa_nil)) (pg_name (i := 5) sc_law_t2_plan.nd rfl (Or.inl rfl)) (pss_cons (ps_set (i := 6) sc_law_t2_plan.nd rfl (Or.inl rfl) (pe_cal C_law_t2_moves (hr.mono (by decide)) (pa_cons (pe_ix ix_list (pv 4) (pe_un un_neg pe_int) (fun _ _ => rfl)) pa_nil)))
      (pss_cons (ps_if (pt_cmpR (op_eqD (ru64 hr)) (pv 6) (pe_lst pa_nil) (nomark _)) (pss_one ps_break) pss_nil)
      (pss_cons (ps_setLc (i := 7) (own := [("_law_move", 8)]) (g := gName 8)  rfl sc_law_t2_plan.nd rfl rfl (sw_true rfl rfl rfl (by decide +kernel)) (pi_list (pv 6)) (blkOk_by (N := n_law_t2_plan) (sc := defScope s_law_t2_plan) (by decide +kernel)) (fun _ _ _ _ _ => (pg_name (i := 8) sc_law_t2_plan.nd rfl (Or.inl rfl))) (fun _ _ _ _ _ => (pts_one (PW.pt (pw_and (pt_cmpR (op_neD (ru64 hr) : OpR _ _ (rNeD K)) (pv 3) (pe_lst pa_nil) (nomark _)) (pw_and (pt_cmpR (op_eqD (ru64 hr) : OpR _ _ (rEqD K)) (pe_ix (ix_tup : IxR _ (rIxT K)) (pv 8) pe_int (fun _ _ => rfl)) (pe_ix (ix_tup : IxR _ (rIxT K)) (pe_ix (ix_list : IxR _ (rIxL K)) (pv 3) (pe_un un_neg pe_int) (fun _ _ => rfl)) pe_int (fun _ _ => rfl)) (nomark _)) (pw_and1 (pt_cmpR (op_neD (ru64 hr) : OpR _ _ (rNeD K)) (pe_ix (ix_tup : IxR _ (rIxT K)) (pv 8) pe_int (fun _ _ => rfl)) (pe_ix (ix_tup : IxR _ (rIxT K)) (pe_ix (ix_list : IxR _ (rIxL K)) (pv 3) (pe_un un_neg pe_int) (fun _ _ => rfl)) pe_int (fun _ _ => rfl)) (nomark _)))))))) (fun _ _ _ _ _ => (pv 8)))
      (pss_cons (ps_if (PW.pt (pw_and (pt_cmpR (op_neD (ru64 hr)) (pv 7) (pe_lst pa_nil) (nomark _)) (pw_and1 (pt_cmpR op_gt (pe_cal C_law_draw (hr.mono (by decide)) (pa_cons (pv 0) (pa_cons pe_int pa_nil))) pe_int (nomark _))))) (pss_one (ps_set (i := 6) sc_law_t2_plan.nd rfl (Or.inl rfl) (pv 7))) pss_nil)
      (pss_cons (ps_expr (pe_bm PySem.F.plainAttrs_list PySem.F.slot_list_append PySem.F.type_list_append mt_append (pv 3) (pa_cons (pe_cal C_law_pick (hr.mono (by decide)) (pa_cons (pv 0) (pa_cons (pv 6) pa_nil))) pa_nil)))
      (pss_one (ps_expr (pe_bm PySem.F.plainAttrs_list PySem.F.slot_list_append PySem.F.type_list_append mt_append (pv 4) (pa_cons (pe_cal C_law_t2_done (hr.mono (by decide)) (pa_cons (pe_ix ix_list (pv 4) (pe_un un_neg pe_int) (fun _ _ => rfl)) (pa_cons (pe_ix ix_tup (pe_ix ix_list (pv 3) (pe_un un_neg pe_int) (fun _ _ => rfl)) pe_int (fun _ _ => rfl)) (pa_cons (pe_ix ix_tup (pe_ix ix_list (pv 3) (pe_un un_neg pe_int) (fun _ _ => rfl)) pe_int (fun _ _ => rfl)) pa_nil)))) pa_nil))))))))))
      (pss_one (ps_ret (pe_tup (pa_cons (pv 3) (pa_cons (pv 4) pa_nil))))))), ?_⟩
    refine q_asg2WW (P1 := li ([] : List (Cell × Cell))) (P2 := li [b]) en_nil.w (en_lst (xs := [b]) (ea_cons (ev_var rfl hb) ea_nil)).w fun pp pq H1 np nq hpq e1 hpp hpq' => ?_
    replace hpp := li_at hpp
    replace hpq' := li_at hpq'
    obtain ⟨hdp, hcp⟩ := hp0.new np
    obtain ⟨hdq, hcq⟩ := hp0.new nq
    refine q_with (fun s' H' => ∃ u5 u6 u7 pl, s' = [some (.ref d), some vb, some (.int m), some (.ref pp), some (.ref pq), u5, u6, u7, none] ∧ Mv [d, pp, pq] H1 H' ∧ PenAt H' d c (n + 2 * pl.length) ∧ (pl.length : Int) ≤ m ∧ okPlan b pl = true ∧ Ls H' pp pl ∧ Ls H' pq (bods b pl)) (fun s' H' ⟨u5, u6, u7, pl, es, mm, hpen, hll, hok, hpp, hpq'⟩ => ?_) fun fin => ?_
    · subst es
      refine s_ret (ev_prP (ev_li rfl hpp) (ev_li rfl hpq')) fun v H5 e5 hv => q pl v H5 hok hll (((Mv.same.ex e1).trw mm fun a ha => ?_).ex e5) ((hpen.up e5).more (by omega)) hv
      simp only [List.mem_cons, List.not_mem_nil, or_false] at ha
      rcases ha with rfl | rfl | rfl
      · exact .inl List.mem_cons_self
      · exact .inr np
      · exact .inr nq
    refine q_forR1 (n := m) (ea_cons (ev_var rfl rfl) ea_nil) (by omega) fun H2 e2 => ⟨fun lap s' H' => ∃ u5 u6 u7 pl, s' = [some (.ref d), some vb, some (.int m), some (.ref pp), some (.ref pq), u5, u6, u7, none] ∧ Mv [d, pp, pq] H1 H' ∧ PenAt H' d c (n + 2 * pl.length) ∧ pl.length = lap ∧ okPlan b pl = true ∧ Ls H' pp pl ∧ Ls H' pq (bods b pl),
      ⟨_, _, _, [], rfl, Mv.same.ex e2, (hp0.up (e1.tr e2)).more (by simp), rfl, rfl, hpp.up e2, hpq'.up e2⟩, fun lap s' H' hlap ⟨u5, u6, u7, pl, es, mm, hpen, hll, hok, hpp, hpq'⟩ => ?_, fun s' H' ⟨u5, u6, u7, pl, es, mm, hpen, hll, hok, hpp, hpq'⟩ => fin _ _ ⟨u5, u6, u7, pl, es, mm, hpen, by omega, hok, hpp, hpq'⟩⟩
    · subst es
      have hel : (endB b pl).length ≤ 1000 := Nat.le_trans (endB_len hok) hbl
      refine q_asgN (ew_c1 (P1 := en (endB b pl)) (ea_cons (ev_ixL (ev_li rfl hpq') (ev_neg (i := 1) ev_int) (bods_at b pl)) ea_nil) ⟨_, rfl, hel, rfl⟩).n fun p6 H3 n6 e3 h6 => ?_
      refine q_ifN (eb_test (ev_eqL (ev_li rfl h6) en_nil.li)) (fun hz H4 e4 => ?_) fun hz H4 e4 => ?_
      · exact fin _ _ ⟨_, _, _, pl, rfl, (mm.ex e3).ex e4, hpen.up (e3.tr e4), by omega, hok, hpp.up (e3.tr e4), hpq'.up (e3.tr e4)⟩
      · have hne : mvs (endB b pl) ≠ [] := of_decide_eq_false hz
        have hmvl : (mvs (endB b pl)).length ≤ 8000 := by
          unfold mvs
          rw [srt_len]
          have := flat_len (mvF_len (endB b pl)) (endB b pl)
          omega
        have hmv : ∀ x, x ∈ mvs (endB b pl) → okMove (endB b pl) x.1 x.2 = true := fun x hx => mvs_ok hx
        generalize mvs (endB b pl) = mv at h6 hne hmvl hmv
        refine q_asgN ((en_lcL (f := fun x => x) (p := fun x : Cell × Cell => !decide (pl = []) && (decide (x.1 = (pl.getLast?.getD ((0, 0), (0, 0))).2) && !decide (x.2 = (pl.getLast?.getD ((0, 0), (0, 0))).1))) (ev_li rfl (h6.up e4)) (by omega) fun x u H'' hx e'' hu => ⟨eb_and (eb_test (ev_neL (ev_li rfl (hpp.up ((e3.tr e4).tr e''))) en_nil.li)) fun hpl => ?_, fun _ => ev_var rfl hu⟩).is (List.map_id' _)) fun p7 H5 n7 e5 h7 => ?_
        · have hpl' : pl ≠ [] := by simpa using hpl
          have hlast : atI pl (-1) = some (pl.getLast?.getD ((0, 0), (0, 0))) := by
            have e0 := List.dropLast_concat_getLast hpl'
            rw [List.getLast?_eq_getLast hpl']
            conv => lhs; rw [← e0]
            exact atI_last _ _
          have hpp'' := hpp.up ((e3.tr e4).tr e'')
          exact eb_and (eb_test (ev_eqE (ev_fst (ev_var rfl hu)) (ev_snd (ev_ixL (ev_li rfl hpp'') (ev_neg (i := 1) ev_int) hlast)))) fun _ => eb_test (ev_neE (ev_snd (ev_var rfl hu)) (ev_fst (ev_ixL (ev_li rfl hpp'') (ev_neg (i := 1) ev_int) hlast)))
        · have f7 : ∀ x, x ∈ mv.filter (fun x : Cell × Cell => !decide (pl = []) && (decide (x.1 = (pl.getLast?.getD ((0, 0), (0, 0))).2) && !decide (x.2 = (pl.getLast?.getD ((0, 0), (0, 0))).1))) → x ∈ mv := fun x hx => (List.mem_filter.mp hx).1
          have l7 := List.length_filter_le (fun x : Cell × Cell => !decide (pl = []) && (decide (x.1 = (pl.getLast?.getD ((0, 0), (0, 0))).2) && !decide (x.2 = (pl.getLast?.getD ((0, 0), (0, 0))).1))) mv
          generalize mv.filter (fun x : Cell × Cell => !decide (pl = []) && (decide (x.1 = (pl.getLast?.getD ((0, 0), (0, 0))).2) && !decide (x.2 = (pl.getLast?.getD ((0, 0), (0, 0))).1))) = fr at h7 f7 l7
          have e35 := (e3.tr e4).tr e5
          have hpen5 := hpen.up e35
          have h65 := h6.up (e4.tr e5)
          have hpp5 := hpp.up e35
          have hpq5 := hpq'.up e35
          have mm5 : Mv [d, pp, pq] H1 H5 := mm.ex e35
          have dS : ∀ b, b ∈ [d] → b ∈ [d, pp, pq] ∨ H1 b = none := fun b hb => .inl (by rw [List.mem_singleton.mp hb]; exact List.mem_cons_self)
          refine q_with (fun s' H' => ∃ px fx, s' = [some (.ref d), some vb, some (.int m), some (.ref pp), some (.ref pq), some (.int (lap : Int)), some (.ref px), some (.ref p7), none] ∧ Mv [d] H5 H' ∧ PenAt H' d c (n + 2 * pl.length + 1) ∧ Ls H' px fx ∧ fx ≠ [] ∧ (∀ x, x ∈ fx → x ∈ mv) ∧ fx.length ≤ 8000)
            (fun s' H' ⟨px, fx, es, mmx, hpenx, hpx, hfn, hfs, hfl⟩ => ?_) fun fin2 => ?_
          · subst es
            refine q_appPick (hpp5.mv (mem1 hdp.symm) mmx) rfl rfl rfl hpenx (by omega) hpx hfn (by omega) (by omega) hdp.symm fun x u Ha Hb hx ma pa hu bt hpl => ?_
            have hpqb := ((hpq5.mv (mem1 hdq.symm) (mmx.tr ma)).but hpq.symm bt)
            have mmb : Mv [d, pp, pq] H1 Hb := (mm5.trw (mmx.tr ma) dS).but bt (.inl (List.mem_cons_of_mem _ List.mem_cons_self))
            have hx1 : atI (pl ++ [x]) (-1) = some x := atI_last _ _
            refine s_app' (x := endB b (pl ++ [x])) hpqb (ev_vr rfl) ?_ (by rw [bods_len]; omega) fun Hc ec Hd bd hpqd => ?_
            · rw [endB_snoc]
              exact ev_c3 (ea_cons (ev_ixL (ev_li rfl hpqb) (ev_neg (i := 1) ev_int) (bods_at b pl)) (ea_cons (ev_fst (ev_ixL (ev_li rfl hpl) (ev_neg (i := 1) ev_int) hx1)) (ea_cons (ev_snd (ev_ixL (ev_li rfl hpl) (ev_neg (i := 1) ev_int) hx1)) ea_nil))) ⟨_, _, _, rfl, rfl, rfl, hel, rfl⟩
            · refine ⟨_, _, _, pl ++ [x], rfl, (mmb.ex ec).but bd (.inl (List.mem_cons_of_mem _ (List.mem_cons_of_mem _ List.mem_cons_self))), ((((pa.but bt ⟨hdp, hcp⟩).up ec).but bd ⟨hdq, hcq⟩).more ?_), ?_, ?_, (hpl.up ec).but hpq bd, ?_⟩
              · rw [List.length_append, List.length_singleton]
                omega
              · rw [List.length_append, List.length_singleton, hll]
              · rw [okPlan_snoc, hok, hmv x (hfs x hx)]
                rfl
              · rw [bods_snoc]
                exact hpqd
          · refine q_if2 (b1 := !decide (fr = [])) hpen5 (eb_test (ev_neL (ev_li rfl h7) en_nil.li)) (fun Ha ea Q' q' => ⟨.ref d, rfl, d, c, _, 3, rfl, hpen5.up ea, by omega, by decide, by decide, fun z Hb z0 z1 mb pb => ⟨z, 0, rfl, rfl, decide (0 < z), rfl, q' _ Hb mb pb⟩⟩) (fun b1 Ha ma pa => ?_) fun Ha ma pa => ?_
            · have hne7 : fr ≠ [] := by simpa using b1
              refine s_asg (P := va (.ref p7)) (ev_vr rfl) fun v Hb eb hv => ?_
              obtain rfl : v = .ref p7 := hv
              exact fin2 _ _ ⟨p7, fr, rfl, ma.ex eb, pa.up eb, (h7.mv (mem1 (hpen5.ne h7)) ma).up eb, hne7, f7, by omega⟩
            · exact fin2 _ _ ⟨p6, mv, rfl, ma, pa, h65.mv (mem1 (hpen5.ne h65)) ma, hne, fun x hx => hx, hmvl⟩
end
end TB
set_option Elab.async false
set_option linter.all false
set_option maxRecDepth 100000
set_option maxHeartbeats 2000000
/-! M3: how far the squares are, by layers; ways back to the root. -/
namespace TB
theorem dget_isSome_of {κ β : Type} [DecidableEq κ] {m : List (κ × β)} {k : κ} {v : β} (h : dget m k = some v) : (dget m k).isSome = true := by
  rw [h]
  rfl
theorem dput_new_len {κ β : Type} [DecidableEq κ] {m : List (κ × β)} {k : κ} {v : β} (h : dget m k = none) : (dput m k v).length = m.length + 1 := by
  rw [dput_new h, List.length_append]
  rfl
theorem dput_nd {κ β : Type} [DecidableEq κ] {m : List (κ × β)} {k : κ} {v : β} (h : (m.map (·.1)).Nodup) : ((dput m k v).map (·.1)).Nodup := by
  rw [dput_keys]
  split
  · exact h
  · rename_i hk
    rw [List.nodup_append]
    refine ⟨h, by simp, fun a ha b hb e => hk ?_⟩
    rw [List.mem_singleton] at hb
    rw [← hb, ← e]
    exact ha
/-- the state in the midst of a lap: fr0 was known before it, cov has been looked at, lt is new -/
structure LInv (S : Cell → Prop) (fr0 : List (Cell × Int)) (lap : Nat) (ln cov : List Cell) (fr : List (Cell × Int)) (lt : List Cell) : Prop where
  old : ∀ x v, dget fr0 x = some v → dget fr x = some v
  new : ∀ x v, dget fr x = some v → dget fr0 x = some v ∨ (v = (lap : Int) + 1 ∧ x ∈ lt)
  lts : ∀ x, x ∈ lt → dget fr x = some ((lap : Int) + 1) ∧ dget fr0 x = none ∧ S x ∧ ∃ y, y ∈ ln ∧ x ∈ nbs y
  len : fr.length = fr0.length + lt.length
  nd : (fr.map (·.1)).Nodup
  cov : ∀ z, z ∈ cov → S z → (dget fr z).isSome = true
theorem LInv.start {S : Cell → Prop} {fr0 : List (Cell × Int)} {lap : Nat} {ln : List Cell} (nd : (fr0.map (·.1)).Nodup) : LInv S fr0 lap ln [] fr0 [] where
  old _ _ h := h
  new _ _ h := .inl h
  lts x h := by cases h
  len := rfl
  nd := nd
  cov z h := by cases h
theorem LInv.skip {S : Cell → Prop} {fr0 fr : List (Cell × Int)} {lap : Nat} {ln cov lt : List Cell} {z : Cell} (I : LInv S fr0 lap ln cov fr lt) (h : ¬ S z ∨ (dget fr z).isSome = true) : LInv S fr0 lap ln (cov ++ [z]) fr lt :=
  ⟨I.old, I.new, I.lts, I.len, I.nd, fun x hx hs => by
    rcases List.mem_append.mp hx with q | q
    · exact I.cov x q hs
    · rw [List.mem_singleton.mp q] at hs ⊢
      rcases h with h | h
      · exact absurd hs h
      · exact h⟩
theorem LInv.add {S : Cell → Prop} {fr0 fr : List (Cell × Int)} {lap : Nat} {ln cov lt : List Cell} {y z : Cell} (I : LInv S fr0 lap ln cov fr lt) (hy : y ∈ ln) (hz : z ∈ nbs y) (hs : S z) (hn : dget fr z = none) : LInv S fr0 lap ln (cov ++ [z]) (dput fr z ((lap : Int) + 1)) (lt ++ [z]) where
  old x v h := by
    have h2 := I.old x v h
    rw [dget_put, if_neg fun e => by rw [e, hn] at h2; cases h2]
    exact h2
  new x v h := by
    rw [dget_put] at h
    by_cases e : x = z
    · rw [if_pos e] at h
      cases h
      exact .inr ⟨rfl, List.mem_append_right _ (by rw [e]; exact List.mem_cons_self)⟩
    · rw [if_neg e] at h
      rcases I.new x v h with q | q
      · exact .inl q
      · exact .inr ⟨q.1, List.mem_append_left _ q.2⟩
  lts x h := by
    rcases List.mem_append.mp h with q | q
    · obtain ⟨a, b, c, d⟩ := I.lts x q
      refine ⟨?_, b, c, d⟩
      rw [dget_put, if_neg fun e => by rw [e, hn] at a; cases a]
      exact a
    · rw [List.mem_singleton.mp q]
      refine ⟨by rw [dget_put, if_pos rfl], ?_, hs, y, hy, hz⟩
      cases e : dget fr0 z with
      | none => rfl
      | some v =>
        rw [I.old z v e] at hn
        cases hn
  len := by
    rw [dput_new_len hn, I.len, List.length_append]
    rfl
  nd := dput_nd I.nd
  cov x hx hs' := by
    rw [dget_put]
    by_cases e : x = z
    · rw [if_pos e]
      rfl
    · rw [if_neg e]
      rcases List.mem_append.mp hx with q | q
      · exact I.cov x q hs'
      · exact absurd (List.mem_singleton.mp q) e
/-- the state between two laps -/
structure BInv (S : Cell → Prop) (root : Cell) (lap : Nat) (ln : List Cell) (fr : List (Cell × Int)) : Prop where
  key : ∀ x v, dget fr x = some v → S x ∧ 0 ≤ v ∧ v ≤ (lap : Int) ∧ (v = 0 ↔ x = root) ∧ (v = (lap : Int) → x ∈ ln)
  par : ∀ x v, dget fr x = some v → 1 ≤ v → ∃ y, y ∈ nbs x ∧ dget fr y = some (v - 1)
  root : dget fr root = some 0
  full : ∀ x v, dget fr x = some v → v < (lap : Int) → ∀ z, z ∈ nbs x → S z → (dget fr z).isSome = true
  lns : ∀ x, x ∈ ln → dget fr x = some (lap : Int)
  cnt : ln ≠ [] → lap + 1 ≤ fr.length
  nd : (fr.map (·.1)).Nodup
theorem BInv.start {S : Cell → Prop} {root : Cell} (h : S root) : BInv S root 0 [root] (dput [] root 0) where
  key x v hx := by
    rw [dget_put, dget_nil] at hx
    by_cases e : x = root
    · rw [if_pos e] at hx
      cases hx
      exact ⟨by rw [e]; exact h, by decide, by decide, ⟨fun _ => e, fun _ => rfl⟩, fun _ => by rw [e]; exact List.mem_cons_self⟩
    · rw [if_neg e] at hx
      cases hx
  par x v hx h1 := by
    rw [dget_put, dget_nil] at hx
    by_cases e : x = root
    · rw [if_pos e] at hx
      cases hx
      omega
    · rw [if_neg e] at hx
      cases hx
  root := by rw [dget_put, if_pos rfl]
  full x v hx hv := by
    rw [dget_put, dget_nil] at hx
    by_cases e : x = root
    · rw [if_pos e] at hx
      cases hx
      omega
    · rw [if_neg e] at hx
      cases hx
  lns x hx := by rw [List.mem_singleton.mp hx, dget_put, if_pos rfl]; rfl
  cnt _ := Nat.le_refl _
  nd := by simp [dput]
theorem BInv.next {S : Cell → Prop} {root : Cell} {lap : Nat} {ln lt : List Cell} {fr0 fr : List (Cell × Int)} (B : BInv S root lap ln fr0) (I : LInv S fr0 lap ln (ln.flatMap nbs) fr lt) : BInv S root (lap + 1) lt fr where
  key x v hx := by
    rcases I.new x v hx with h | ⟨rfl, h⟩
    · obtain ⟨a, b, c, d, _⟩ := B.key x v h
      exact ⟨a, b, by omega, d, fun e => by omega⟩
    · obtain ⟨_, b, c, _⟩ := I.lts x h
      refine ⟨c, by omega, by omega, ⟨fun e => by omega, fun e => ?_⟩, fun _ => h⟩
      rw [e, B.root] at b
      cases b
  par x v hx h1 := by
    rcases I.new x v hx with h | ⟨rfl, h⟩
    · obtain ⟨y, hy, e⟩ := B.par x v h h1
      exact ⟨y, hy, I.old _ _ e⟩
    · obtain ⟨_, _, _, y, hy, hz⟩ := I.lts x h
      refine ⟨y, nbs_symm hz, ?_⟩
      rw [I.old _ _ (B.lns y hy)]
      congr 1
      omega
  root := I.old _ _ B.root
  full x v hx hv z hz hs := by
    rcases I.new x v hx with h | ⟨rfl, h⟩
    · by_cases e : v < (lap : Int)
      · obtain ⟨w, hw⟩ := Option.isSome_iff_exists.mp (B.full x v h e z hz hs)
        exact dget_isSome_of (I.old _ _ hw)
      · have : v = (lap : Int) := by omega
        exact I.cov z (List.mem_flatMap.mpr ⟨x, (B.key x v h).2.2.2.2 this, hz⟩) hs
    · omega
  lns x hx := by
    rw [(I.lts x hx).1]
    rfl
  cnt hne := by
    have h1 : ln ≠ [] := fun e => by
      cases lt with
      | nil => exact hne rfl
      | cons a r =>
        obtain ⟨_, _, _, y, hy, _⟩ := I.lts a List.mem_cons_self
        rw [e] at hy
        cases hy
    have h2 := B.cnt h1
    have h3 : 0 < lt.length := List.length_pos_iff.mpr hne
    rw [I.len]
    omega
  nd := I.nd
/-- after enough laps every square is known -/
theorem BInv.all {S : Cell → Prop} {root : Cell} {lap : Nat} {ln : List Cell} {fr : List (Cell × Int)} (B : BInv S root lap ln fr) (hl : fr.length ≤ lap) (hr : ∀ x, S x → Reach S root x) : ∀ x, S x → ∃ v, dget fr x = some v := fun x hx => by
  have hln : ln = [] := Classical.byContradiction fun z => by
    have := B.cnt z
    omega
  refine Option.isSome_iff_exists.mp ((hr x hx).inside (T := fun y => (dget fr y).isSome = true) (dget_isSome_of B.root) fun a b ta _ hb sb => ?_).1
  obtain ⟨v, hv⟩ := Option.isSome_iff_exists.mp ta
  obtain ⟨_, _, h3, _, h5⟩ := B.key a v hv
  refine B.full a v hv ?_ b hb sb
  rcases Int.lt_or_eq_of_le h3 with h | h
  · exact h
  · have := h5 h
    rw [hln] at this
    cases this
/-- what is known of a witness -/
structure IsWit (b : List Cell) (s : Cell) (w : List Cell) : Prop where
  sub : ∀ x, x ∈ w → x ∈ rest b s
  hang : Hang w
  near : ∀ z, z ∈ nbs s → z ∈ b → z ∈ w
  nd : w.Nodup
theorem nbs_ne {s z : Cell} (h : z ∈ nbs s) : z ≠ s := fun e => by
  subst e
  obtain ⟨a, b⟩ := z
  simp only [nbs, List.mem_cons, Prod.mk.injEq, List.not_mem_nil, or_false] at h
  omega
theorem rest_near {b : List Cell} {s z : Cell} (h : z ∈ nbs s) : z ∈ rest b s ↔ z ∈ b := by
  rw [mem_rest]
  exact ⟨fun h => h.1, fun q => ⟨q, nbs_ne h⟩⟩
/-- on the way to the root -/
structure WI (S : Cell → Prop) (root here : Cell) (W : List (Cell × Bool)) : Prop where
  sub : ∀ x, (dget W x).isSome = true → S x
  con : ∀ x, (dget W x).isSome = true → Reach (fun z => (dget W z).isSome = true ∨ z = here ∨ z = root) x root ∨ Reach (fun z => (dget W z).isSome = true ∨ z = here ∨ z = root) x here
  nd : (W.map (·.1)).Nodup
theorem WI.begin {S : Cell → Prop} {root here : Cell} {W : List (Cell × Bool)} (I : WI S root root W) : WI S root here W where
  sub := I.sub
  nd := I.nd
  con x hx := by
    left
    refine (I.con x hx).elim (fun h => h.wide fun z hz => ?_) fun h => h.wide fun z hz => ?_
    · rcases hz with h | h | h
      · exact .inl h
      · exact .inr (.inr h)
      · exact .inr (.inr h)
    · rcases hz with h | h | h
      · exact .inl h
      · exact .inr (.inr h)
      · exact .inr (.inr h)
theorem put_in {W : List (Cell × Bool)} {x z : Cell} : (dget (dput W z true) x).isSome = true ↔ x = z ∨ (dget W x).isSome = true := by
  rw [dget_put]
  by_cases e : x = z
  · simp [e]
  · rw [if_neg e]
    simp [e]
theorem WI.stay {S : Cell → Prop} {root here : Cell} {W : List (Cell × Bool)} (I : WI S root here W) (hs : S here) : WI S root here (dput W here true) where
  sub x hx := by
    rcases put_in.mp hx with h | h
    · rw [h]
      exact hs
    · exact I.sub x h
  nd := dput_nd I.nd
  con x hx := by
    have w : ∀ z, ((dget W z).isSome = true ∨ z = here ∨ z = root) → ((dget (dput W here true) z).isSome = true ∨ z = here ∨ z = root) := fun z hz => hz.elim (fun h => .inl (put_in.mpr (.inr h))) .inr
    rcases put_in.mp hx with h | h
    · rw [h]
      exact .inr (.refl (.inr (.inl rfl)))
    · exact (I.con x h).imp (fun r => r.wide w) fun r => r.wide w
theorem WI.go {S : Cell → Prop} {root here there : Cell} {W : List (Cell × Bool)} (I : WI S root here (dput W here true)) (hn : there ∈ nbs here) : WI S root there (dput W here true) where
  sub := I.sub
  nd := I.nd
  con x hx := by
    have w : ∀ z, ((dget (dput W here true) z).isSome = true ∨ z = here ∨ z = root) → ((dget (dput W here true) z).isSome = true ∨ z = there ∨ z = root) := fun z hz => by
      rcases hz with h | h | h
      · exact .inl h
      · exact .inl (put_in.mpr (.inl h))
      · exact .inr (.inr h)
    exact (I.con x hx).imp (fun r => r.wide w) fun r => .step (r.wide w) hn (.inr (.inl rfl))
theorem WI.wit {b : List Cell} {s root : Cell} {W : List (Cell × Bool)} (I : WI (· ∈ rest b s) root root W) (hr : (dget W root).isSome = true) (near : ∀ z, z ∈ nbs s → z ∈ b → (dget W z).isSome = true) : IsWit b s (srt (W.map (·.1))) where
  sub x hx := I.sub x (dget_some.mpr (srt_mem.mp hx))
  near z h1 h2 := srt_mem.mpr (dget_some.mp (near z h1 h2))
  nd := (srt_perm _).nodup_iff.mpr I.nd
  hang := by
    have w : ∀ z, ((dget W z).isSome = true ∨ z = root ∨ z = root) → z ∈ srt (W.map (·.1)) := fun z hz => by
      refine srt_mem.mpr (dget_some.mp ?_)
      rcases hz with h | h | h
      · exact h
      · rw [h]
        exact hr
      · rw [h]
        exact hr
    refine hang_of (w root (.inl hr)) fun x hx => ?_
    have h := I.con x (dget_some.mpr (srt_mem.mp hx))
    exact (h.elim (fun r => r.wide w) fun r => r.wide w).sy
theorem leastOf_mem {α : Type} [DecidableEq α] [Enc α] [EncO α] : ∀ (x : α) (xs : List α), leastOf x xs ∈ x :: xs
  | x, [] => List.mem_cons_self
  | x, y :: r => by
    show leastOf (if EncO.lt y x = true then y else x) r ∈ _
    have := leastOf_mem (if EncO.lt y x = true then y else x) r
    rcases List.mem_cons.mp this with h | h
    · rw [h]
      split
      · exact List.mem_cons_of_mem _ List.mem_cons_self
      · exact List.mem_cons_self
    · exact List.mem_cons_of_mem _ (List.mem_cons_of_mem _ h)
end TB
set_option Elab.async false
set_option linter.all false
set_option maxRecDepth 100000
set_option maxHeartbeats 4000000
/-! D14: witness. -/
namespace TB
open PySem PySem.Spec PyProof.Rows L2
/-- an int, or None -/
def oi (o : Option Int) : Pd := ⟨fun _ v => v = match o with
  | none => .non
  | some i => .int i, fun _ h => h⟩
section
variable {K : PySem.W.Frag} {s : TSt} {H : Hp} {ta tb : TE}
theorem ev_eqO {o : Option Int} {j : Int} (ha : EvP ta s H (oi o)) (hb : EvP tb s H (en j)) : EvP (tOp rEq ta tb) s H (en (decide (o = some j))) := fun H1 e Q q =>
  ha H1 e _ fun v H2 e2 hv => hb H2 (e.tr e2) _ fun w H3 e3 hw => by
    obtain rfl : w = .int j := hw
    cases o with
    | none =>
      obtain rfl : v = .non := hv
      exact ⟨rfl, q _ H3 (e2.tr e3) rfl⟩
    | some i =>
      obtain rfl : v = .int i := hv
      refine ⟨rfl, q _ H3 (e2.tr e3) ?_⟩
      show V.bl _ = V.bl _
      rw [dec_V_int]
      congr 1
      by_cases h : i = j
      · simp [h]
      · rw [decide_eq_false h, decide_eq_false fun z => h (Option.some.inj z)]
theorem ev_getO {td ty : TE} {c : Cell} {kvs : List (Cell × Int)} (hd : EvP td s H (ds kvs)) (hc : EvP ty s H (en c)) : EvP (tDGet1 td ty) s H (oi (dget kvs c)) := ev_get1 hd hc (fun h _ => by rw [h]; rfl) fun x h _ v hv => by
  rw [h]
  exact hv
theorem ev_minM {α : Type} [DecidableEq α] [Enc α] [EncO α] {xs : List α} (ha : EvP ta s H (li xs)) (hne : xs ≠ []) : EvP (tCB (rMinE α) (tCons ta tNil)) s H (enX fun x : α => x ∈ xs) := fun H1 e Q q =>
  ha H1 e _ fun v H2 e2 ⟨l, ev, hl⟩ => by
    cases xs with
    | nil => exact absurd rfl hne
    | cons x r => exact ⟨l, x, r, by rw [ev], hl, fun u hu => q u H2 e2 ⟨_, leastOf_mem x r, hu⟩⟩
theorem ev_lenD' {β : Type} [DecidableEq β] [Enc β] {kvs : List (Cell × β)} (hd : EvP ta s H (ds kvs)) : EvP (tCB rLenT (tCons ta tNil)) s H (en (kvs.length : Int)) := ev_lenD hd
end
section
variable {P : Program} {w : World} {K : PySem.W.Frag} {mg : Str → Option Value} {base : Heap}
abbrev s_law_t2_witness : Stmt := topS 56
abbrev n_law_t2_witness : List Str := ["_law_body", "_law_start", "_law_rest", "_law_near", "_law_far", "_law_line", "_law_lap", "_law_later", "_law_cell", "_law_one", "_law_found", "_law_here", "_law_nearer"]
theorem sc_law_t2_witness : FnScope n_law_t2_witness ["_law_body", "_law_start"] (defScope s_law_t2_witness) := ⟨rfl, rfl, rfl, by decide +kernel, rfl, by decide +kernel, by decide +kernel⟩
def spWitness : Sp := S2 fun P1 P2 Pz => ∃ (b : List Cell) (c : Cell), P1 = en b ∧ P2 = en c ∧ b.length ≤ 1000 ∧ Hang (rest b c) ∧ (∃ z, z ∈ nbs c ∧ z ∈ b) ∧ Pz = enX (IsWit b c)
theorem ok_law_witness (T : Txt K mg "_law_t2_witness" "_law_t2_witness" s_law_t2_witness ["_law_body", "_law_start"]) (Z : Blt mg) (C_law_t2_squares : Cal P w K mg base 1 "_law_t2_squares" ["_law_body"] spSquares)
    (C_law_t2_beside : Cal P w K mg base 1 "_law_t2_beside" ["_law_cell"] spBesideL) : Cal P w K mg base 2 "_law_t2_witness" ["_law_body", "_law_start"] spWitness :=
  T.cal sc_law_t2_witness S2.len fun f cdv A outer s H vs Q E hr h => by
    obtain ⟨v1, v2, P1, P2, Pz, rfl, ⟨b, c, rfl, rfl, hlen, hhang, ⟨z0, hz0, hz0b⟩, rfl⟩, h1, h2, q⟩ := h
    refine ⟨_, (pss_cons (ps_set (i := 2) sc_law_t2_witness.nd rfl (Or.inr rfl) (pe_cal C_law_t2_squares (hr.mono (by decide)) (pa_cons (pe_lc (own := [("_law_cell", 8)]) (g := gName 8) rfl sc_law_t2_witness.nd (pi_tup (pv 0)) (blkOk_by (N := n_law_t2_witness) (sc := defScope s_law_t2_witness) (by decide +kernel)) (fun _ _ _ _ _ => (pg_name (i := 8) sc_law_t2_witness.nd rfl (Or.inl rfl))) (fun _ _ _ _ _ => (pts_one (pt_cmpR (op_neD (ru64 hr) : OpR _ _ (rNeD K)) (pv 8) (pv 1) (nomark _)))) (fun _ _ _ _ _ => (pv 8))) pa_nil)))
      (pss_cons (ps_set (i := 3) sc_law_t2_witness.nd rfl (Or.inl rfl) (pe_callB (cr_sortE (a := Cell) (by decide) (ru64 hr)) (by rfl) Z.sorted (by decide +kernel) (pa_cons (pe_lc (own := [("_law_cell", 8)]) (g := gName 8) rfl sc_law_t2_witness.nd (pi_list (pe_cal C_law_t2_beside (hr.mono (by decide)) (pa_cons (pv 1) pa_nil))) (blkOk_by (N := n_law_t2_witness) (sc := defScope s_law_t2_witness) (by decide +kernel)) (fun _ _ _ _ _ => (pg_name (i := 8) sc_law_t2_witness.nd rfl (Or.inl rfl))) (fun _ _ _ _ _ => (pts_one (pt_cmp ((pc_din (ru1 hr)) (pv 8) (pv 2))))) (fun _ _ _ _ _ => (pv 8))) pa_nil)))
      (pss_cons (ps_asg (pe_tup (pa_cons pe_dnewT (pa_cons (pe_lst (pa_cons (pe_ix ix_list (pv 3) pe_int (fun _ _ => rfl)) pa_nil)) pa_nil))) (pg_tup rfl (pgs_cons (pg_name (i := 4) sc_law_t2_witness.nd rfl (Or.inr rfl)) (pgs_cons (pg_name (i := 5) sc_law_t2_witness.nd rfl (Or.inl rfl)) pgs_nil))))
      (pss_cons (ps_dput (ru1 hr) (pv 4) (pe_ix ix_list (pv 3) pe_int (fun _ _ => rfl)) pe_int rfl)
      (pss_cons (ps_for PassesOwn.never rfl (pi_range1 (by rfl) Z.range (pa_cons (pe_callB call_len_dT (by rfl) Z.len (by decide +kernel) (pa_cons (pv 2) pa_nil)) pa_nil)) (pg_name (i := 6) sc_law_t2_witness.nd rfl (Or.inl rfl)) (pss_cons (ps_set (i := 7) sc_law_t2_witness.nd rfl (Or.inl rfl) (pe_lst pa_nil))
      (pss_cons (ps_for PassesOwn.never rfl (pi_list (pv 5)) (pg_name (i := 8) sc_law_t2_witness.nd rfl (Or.inl rfl)) (pss_one (ps_for PassesOwn.never rfl (pi_list (pe_cal C_law_t2_beside (hr.mono (by decide)) (pa_cons (pv 8) pa_nil))) (pg_name (i := 9) sc_law_t2_witness.nd rfl (Or.inl rfl)) (pss_one (ps_if (PW.pt (pw_and (pt_cmp ((pc_din (ru1 hr)) (pv 9) (pv 2))) (pw_and1 (pt_cmp ((pc_dnotin (ru1 hr)) (pv 9) (pv 4)))))) (pss_cons (ps_dput (ru1 hr) (pv 4) (pv 9) (pe_op op_add (pv 6) pe_int) rfl)
      (pss_one (ps_expr (pe_bm PySem.F.plainAttrs_list PySem.F.slot_list_append PySem.F.type_list_append mt_append (pv 7) (pa_cons (pv 9) pa_nil))))) pss_nil)))))
      (pss_one (ps_set (i := 5) sc_law_t2_witness.nd rfl (Or.inl rfl) (pv 7))))))
      (pss_cons (ps_set (i := 10) sc_law_t2_witness.nd rfl (Or.inl rfl) pe_dnewT)
      (pss_cons (ps_for PassesOwn.never rfl (pi_list (pv 3)) (pg_name (i := 8) sc_law_t2_witness.nd rfl (Or.inl rfl)) (pss_cons (ps_set (i := 11) sc_law_t2_witness.nd rfl (Or.inr rfl) (pv 8))
      (pss_one (ps_for PassesOwn.never rfl (pi_range1 (by rfl) Z.range (pa_cons (pe_op op_add (pe_dget (ru1 hr) (pv 4) (pv 8) (fun _ _ => rfl)) pe_int) pa_nil)) (pg_name (i := 6) sc_law_t2_witness.nd rfl (Or.inl rfl)) (pss_cons (ps_dput (ru1 hr) (pv 10) (pv 11) pe_bl rfl)
      (pss_cons (ps_setLc (i := 12) (own := [("_law_one", 9)]) (g := gName 9)  rfl sc_law_t2_witness.nd rfl rfl (sw_true rfl rfl rfl (by decide +kernel)) (pi_list (pe_cal C_law_t2_beside (hr.mono (by decide)) (pa_cons (pv 11) pa_nil))) (blkOk_by (N := n_law_t2_witness) (sc := defScope s_law_t2_witness) (by decide +kernel)) (fun _ _ _ _ _ => (pg_name (i := 9) sc_law_t2_witness.nd rfl (Or.inl rfl))) (fun _ _ _ _ _ => (pts_one (pt_cmpR op_eq (pe_dget1 (ru1 hr) (pv 4) (pv 9) ⟨rfl, rfl, rfl, rfl⟩) (pe_op op_sub (pe_dget (ru1 hr) (pv 4) (pv 11) (fun _ _ => rfl)) pe_int) (nomark _)))) (fun _ _ _ _ _ => (pv 9)))
      (pss_one (ps_if (pt_cmpR (op_neD (ru64 hr)) (pv 12) (pe_lst pa_nil) (nomark _)) (pss_one (ps_set (i := 11) sc_law_t2_witness.nd rfl (Or.inr rfl) (pe_callB (cr_minE (a := Cell) (by decide) rfl (ru64 hr)) (by rfl) Z.min (by decide +kernel) (pa_cons (pv 12) pa_nil)))) pss_nil))))))))
      (pss_one (ps_ret (pe_callTy call_tuple_of (by rfl) Z.tuple (by decide +kernel) (pa_cons (pe_callB (cr_sortE (a := Cell) (by decide) (ru64 hr)) (by rfl) Z.sorted (by decide +kernel) (pa_cons (pe_callTy (call_list_dT rfl) (by rfl) Z.list (by decide +kernel) (pa_cons (pv 10) pa_nil)) pa_nil)) pa_nil))))))))))), ?_⟩
    have hrl : (rest b c).length ≤ 1000 := Nat.le_trans rest_len hlen
    -- rest, near
    refine q_asgW (ew_c1 (P1 := li (rest b c)) (ea_cons ((en_lcT (f := fun x => x) (p := fun x => !decide (x = c)) (ev_var rfl h1) (by omega) fun x u H' hx e hu => ⟨eb_test (ev_neE (ev_var rfl hu) (ev_var rfl (en_up e h2))), fun _ => ev_var rfl hu⟩).is (List.map_id' _)).li ea_nil) ⟨_, .inr rfl, hrl, rfl⟩) fun pr H1 nr e1 hr0 => ?_
    replace hr0 := ds_at hr0
    have hS : ∀ x, (dget (dall (rest b c)) x).isSome = true ↔ x ∈ rest b c := fun x => dall_mem
    refine q_asgN (en_sort ((en_lcL (f := fun x => x) (p := fun x => (dget (dall (rest b c)) x).isSome) (ew_c1 (P1 := en c) (ea_cons (ev_var rfl (en_up e1 h2)) ea_nil) ⟨_, rfl, rfl⟩).p (Nat.le_of_ble_eq_true rfl) fun x u H' hx e hu => ⟨eb_test (ev_inD (ev_var rfl hu) (ev_ds rfl (hr0.up e))), fun _ => ev_var rfl hu⟩).is (List.map_id' _)).li (.inl fun x _ => ⟨_, _, rfl⟩)) fun pn H2 n2 e2 hn => ?_
    have hnear : ∀ x, x ∈ srt ((nbs c).filter fun x => (dget (dall (rest b c)) x).isSome) ↔ x ∈ nbs c ∧ x ∈ rest b c := fun x => by rw [srt_mem, List.mem_filter, hS]
    have hnl : (srt ((nbs c).filter fun x => (dget (dall (rest b c)) x).isSome)).length ≤ 4 := by
      rw [srt_len]
      exact List.length_filter_le _ _
    generalize srt ((nbs c).filter fun x => (dget (dall (rest b c)) x).isSome) = nr' at hn hnear hnl
    obtain ⟨root, nrr, rfl⟩ : ∃ root r, nr' = root :: r := by
      cases nr' with
      | nil =>
        have := (hnear z0).mpr ⟨hz0, (rest_near hz0).mpr hz0b⟩
        cases this
      | cons a r => exact ⟨a, r, rfl⟩
    have hroot : root ∈ rest b c := ((hnear root).mp List.mem_cons_self).2
    have hr2 := hr0.up e2
    have hR : (dall (rest b c)).length ≤ 1000 := Nat.le_trans (dall_len _) hrl
    -- far, line
    refine q_asg2WW (P1 := ds ([] : List (Cell × Int))) (P2 := li [root]) ew_dict (en_lst (xs := [root]) (ea_cons (ev_ixL (ev_li rfl hn) ev_int (atI_nat (j := 0) rfl)) ea_nil)).w fun pf pl H3 nf nl hfl e3 hf hl => ?_
    replace hf := ds_at hf
    replace hl := li_at hl
    refine q_dput (c := root) (x := (0 : Int)) hf ev_int (ev_vr rfl) (ev_ixL (ev_li rfl (hn.up e3)) ev_int (atI_nat (j := 0) rfl)) (by decide) fun H4 e4 H5 b5 hf5 => ?_
    have nfH : H pf = none := (e1.tr e2).back nf
    have e25 : Ex H2 H5 := (e3.tr e4).but nf b5
    have e05 : Ex H H5 := (e1.tr e2).tr e25
    have hn5 := hn.up e25
    have hr5 := hr2.up e25
    have hprf : pr ≠ pf := hr2.ne_new nf
    have hpnf : pn ≠ pf := hn.ne_new nf
    -- the laps
    refine q_forR1 (n := ((dall (rest b c)).length : Int)) (ea_cons (ev_lenD (ev_ds rfl hr5)) ea_nil) (by omega) fun H6 e6 => ⟨fun lap s' H' => ∃ u6 u7 u8 u9 pl ln fr, s' = [some v1, some v2, some (.ref pr), some (.ref pn), some (.ref pf), some (.ref pl), u6, u7, u8, u9, none, none, none] ∧ Mv [pf] H6 H' ∧ Dc (β := Int) H' pf fr ∧ Ls H' pl ln ∧ pl ≠ pf ∧ BInv (· ∈ rest b c) root lap ln fr,
      ⟨_, _, _, _, pl, [root], _, rfl, Mv.same, hf5.up e6, ((hl.up e4).but hfl.symm b5).up e6, hfl.symm, BInv.start hroot⟩, fun lap s' H' hlap ⟨u6, u7, u8, u9, pl, ln, fr, es, mm, hfr, hln, hne, B⟩ => ?_, fun s' H' ⟨u6, u7, u8, u9, pl, ln, fr, es, mm, hfr, hln, hne, B⟩ => ?_⟩
    · subst es
      have hE : Ex H5 H' → True := fun _ => trivial
      have hr' : Dc H' pr (dall (rest b c)) := (hr5.up e6).mv (mem1 hprf) mm
      refine q_asgN (en_nil (α := Cell)) fun p7 H7 n7 e7 h7 => ?_
      have h7f : p7 ≠ pf := ((hfr.ne_new n7).symm)
      have hlnS : ∀ y, y ∈ ln → y ∈ rest b c := fun y hy => (B.key y _ (B.lns y hy)).1
      refine q_forA [pf, p7] (hln.up e7) (ev_vr rfl) (mem2 hne (hln.ne_new n7)) fun H8 e8 => ⟨fun i s2 H2' => ∃ u8 u9 fr2 lt, s2 = [some v1, some v2, some (.ref pr), some (.ref pn), some (.ref pf), some (.ref pl), some (.int (lap : Int)), some (.ref p7), u8, u9, none, none, none] ∧ Mv [pf, p7] H8 H2' ∧ Dc (β := Int) H2' pf fr2 ∧ Ls H2' p7 lt ∧ LInv (· ∈ rest b c) fr lap ln ((ln.take i).flatMap nbs) fr2 lt,
        ⟨_, _, fr, [], rfl, Mv.same, hfr.up (e7.tr e8), h7.up e8, LInv.start B.nd⟩, fun i s2 H2' ⟨_, _, _, _, _, mm, _⟩ => mm, fun i y v s2 H2' hy hv ⟨u8, u9, fr2, lt, es, mm2, hfr2, hlt, I⟩ => ?_, fun s2 H2' ⟨u8, u9, fr2, lt, es, mm2, hfr2, hlt, I⟩ => ?_⟩
      · subst es
        refine s_forN [pf, p7] (xs := nbs y) (ew_c1 (P1 := en y) (ea_cons (ev_var rfl hv) ea_nil) ⟨y, rfl, rfl⟩).n (nn2 hfr2.nn hlt.nn) fun H9 e9 => ⟨fun j s3 H3' => ∃ u9 fr3 lt3, s3 = [some v1, some v2, some (.ref pr), some (.ref pn), some (.ref pf), some (.ref pl), some (.int (lap : Int)), some (.ref p7), some v, u9, none, none, none] ∧ Mv [pf, p7] H9 H3' ∧ Dc (β := Int) H3' pf fr3 ∧ Ls H3' p7 lt3 ∧ LInv (· ∈ rest b c) fr lap ln ((ln.take i).flatMap nbs ++ (nbs y).take j) fr3 lt3,
          ⟨_, fr2, lt, rfl, Mv.same, hfr2.up e9, hlt.up e9, by simpa using I⟩, fun j s3 H3' ⟨_, _, _, _, mm, _⟩ => mm, fun j z u s3 H3' hz hu ⟨u9, fr3, lt3, es, mm3, hfr3, hlt3, I3⟩ => ?_, fun s3 H3' ⟨u9, fr3, lt3, es, mm3, hfr3, hlt3, I3⟩ => ?_⟩
        · subst es
          have hfl3 : fr3.length ≤ (rest b c).length := by
            have := nodup_len (xs := fr3.map (·.1)) (ys := rest b c) I3.nd fun x hx => by
              obtain ⟨k, hk⟩ := Option.isSome_iff_exists.mp (dget_some.mpr hx)
              rcases I3.new x k hk with h | ⟨_, h⟩
              · exact (B.key x k h).1
              · exact (I3.lts x h).2.2.1
            rwa [List.length_map] at this
          have hltl : lt3.length ≤ fr3.length := by
            have := I3.len
            omega
          have hr3 : Dc H3' pr (dall (rest b c)) := (((hr'.up (e7.tr e8)).mv (mem2 hprf (hr'.ne_new n7)) mm2).up e9).mv (mem2 hprf (hr'.ne_new n7)) mm3
          refine s_ifN (b := (dget (dall (rest b c)) z).isSome && !(dget fr3 z).isSome) (eb_and (eb_test (ev_inD (ev_var rfl hu) (ev_ds rfl hr3))) fun _ => eb_test (ev_niD (ev_var rfl hu) (ev_ds rfl hfr3))) (fun hb H10 e10 => ?_) fun hb H10 e10 => ?_
          · rw [Bool.and_eq_true] at hb
            have hzS := (hS z).mp hb.1
            have hzn : dget fr3 z = none := by
              cases hq : dget fr3 z with
              | none => rfl
              | some k =>
                rw [hq] at hb
                cases hb.2
            refine q_dput (c := z) (x := (lap : Int) + 1) (hfr3.up e10) (ev_I (i := (lap : Int)) (ev_var rfl rfl) ev_int) (ev_vr rfl) (ev_var rfl (en_up e10 hu)) (by omega) fun H11 e11 H12 b12 hfr12 => ?_
            refine s_app' (x := z) ((hlt3.up (e10.tr e11)).but h7f b12) (ev_vr rfl) (ev_var rfl (Enc.mono b12.tu (en_up (e10.tr e11) hu))) (by omega) fun H13 e13 H14 b14 hlt14 => ?_
            refine ⟨_, _, _, rfl, ((((mm3.ex e10).ex e11).but b12 (.inl List.mem_cons_self)).ex e13).but b14 (.inl (List.mem_cons_of_mem _ List.mem_cons_self)), (hfr12.up e13).but h7f.symm b14, hlt14, ?_⟩
            rw [take_snoc hz, ← List.append_assoc]
            exact I3.add (List.mem_of_getElem? hy) (List.mem_of_getElem? hz) hzS hzn
          · refine ⟨_, fr3, lt3, rfl, mm3.ex e10, hfr3.up e10, hlt3.up e10, ?_⟩
            rw [take_snoc hz, ← List.append_assoc]
            refine I3.skip ?_
            by_cases hzS : z ∈ rest b c
            · right
              rw [(hS z).mpr hzS] at hb
              cases hq : (dget fr3 z).isSome with
              | true => rfl
              | false =>
                rw [hq] at hb
                cases hb
            · exact .inl hzS
        · subst es
          refine ⟨_, _, fr3, lt3, rfl, (mm2.ex e9).tr mm3, hfr3, hlt3, ?_⟩
          rw [show (nbs y).length = 4 from rfl, show (nbs y).take 4 = nbs y from rfl] at I3
          rw [take_snoc hy, List.flatMap_append, List.flatMap_singleton]
          exact I3
      · subst es
        refine s_asg (P := va (.ref p7)) (ev_vr rfl) fun v H9 e9 hv => ?_
        obtain rfl : v = .ref p7 := hv
        rw [List.take_length] at I
        refine ⟨_, _, _, _, p7, lt, fr2, rfl, ((mm.ex (e7.tr e8)).trw mm2 fun a ha => ?_).ex e9, hfr2.up e9, hlt.up e9, h7f, B.next I⟩
        rcases List.mem_cons.mp ha with z | z
        · exact .inl (by rw [z]; exact List.mem_cons_self)
        · rw [List.mem_singleton.mp z]
          exact .inr (mm.back (mem1 h7f) n7)
    · subst es
      rw [Int.toNat_natCast] at B
      have hall : ∀ x, x ∈ rest b c → ∃ v, dget fr x = some v := B.all (by
        have h1 := nodup_len (xs := fr.map (·.1)) (ys := (dall (rest b c)).map (·.1)) B.nd fun x hx => by
          obtain ⟨k, hk⟩ := Option.isSome_iff_exists.mp (dget_some.mpr hx)
          exact dall_keys.mpr (B.key x k hk).1
        rwa [List.length_map, List.length_map] at h1) fun x hx => hhang.2 root hroot x hx
      have hvle : ∀ x v, dget fr x = some v → v ≤ 1000 := fun x v h => by
        have := (B.key x v h).2.2.1
        omega
      have hn' : Ls H' pn (root :: nrr) := (hn5.up e6).mv (mem1 hpnf) mm
      have e0' : Ex H H' := (e05.tr e6).mv mm (no1 nfH)
      refine q_asgW (ew_dict (β := Bool)) fun pw H7 nw e7 hw => ?_
      replace hw := ds_at hw
      have hwf : pf ≠ pw := hfr.ne_new nw
      have hwn : pn ≠ pw := hn'.ne_new nw
      refine q_forA [pw] (hn'.up e7) (ev_vr rfl) (mem1 hwn) fun H8 e8 => ⟨fun i s2 H2' => ∃ u6 u8 u9 u11 u12 W, s2 = [some v1, some v2, some (.ref pr), some (.ref pn), some (.ref pf), some (.ref pl), u6, u7, u8, u9, some (.ref pw), u11, u12] ∧ Mv [pw] H8 H2' ∧ Dc (β := Bool) H2' pw W ∧ WI (· ∈ rest b c) root root W ∧ (∀ x, x ∈ (root :: nrr).take i → (dget W x).isSome = true),
        ⟨_, _, _, _, _, [], rfl, Mv.same, hw.up e8, ⟨(fun x hx => by cases hx), (fun x hx => by cases hx), List.nodup_nil⟩, (fun x hx => by simp at hx)⟩, fun i s2 H2' ⟨_, _, _, _, _, _, _, mm, _⟩ => mm, fun i cell v s2 H2' hcell hv ⟨u6, u8, u9, u11, u12, W, es, mm2, hW, I, hhas⟩ => ?_, fun s2 H2' ⟨u6, u8, u9, u11, u12, W, es, mm2, hW, I, hhas⟩ => ?_⟩
      · subst es
        have hcellS : cell ∈ rest b c := ((hnear cell).mp (List.mem_of_getElem? hcell)).2
        obtain ⟨v0, hv0⟩ := hall cell hcellS
        obtain ⟨_, v00, _, _, _⟩ := B.key cell v0 hv0
        have v01 := hvle cell v0 hv0
        refine q_asg (P := en cell) (ev_var rfl hv) fun vh H9 e9 hvh => ?_
        have hf9 : Dc (β := Int) H9 pf fr := ((hfr.up (e7.tr e8)).mv (mem1 hwf) mm2).up e9
        refine s_forR1 (n := v0 + 1) (ea_cons (ev_I (ev_dget (ev_ds rfl hf9) (ev_var rfl (en_up e9 hv)) hv0) ev_int) ea_nil) (by omega) fun H10 e10 => ⟨fun lap s3 H3' => ∃ u6 vh u12 here W3, s3 = [some v1, some v2, some (.ref pr), some (.ref pn), some (.ref pf), some (.ref pl), u6, u7, some v, u9, some (.ref pw), some vh, u12] ∧ Mv [pw] H10 H3' ∧ Dc (β := Bool) H3' pw W3 ∧ En H3' vh here ∧ WI (· ∈ rest b c) root here W3 ∧ (∀ x, (dget W x).isSome = true → (dget W3 x).isSome = true) ∧
            ((lap : Int) ≤ v0 → dget fr here = some (v0 - lap)) ∧ ((lap : Int) = v0 + 1 → here = root ∧ (dget W3 root).isSome = true) ∧ (1 ≤ lap → (dget W3 cell).isSome = true) ∧ (lap = 0 → here = cell),
          ⟨_, _, _, cell, W, rfl, Mv.same, (hW.up e9).up e10, en_up e10 hvh, I.begin, fun x h => h, fun _ => by simpa using hv0, fun h => by omega, fun h => by omega, fun _ => rfl⟩, fun lap s3 H3' hlap ⟨u6, vh, u12, here, W3, es, mm3, hW3, hvh, I3, hkeep, hfar, hend, hin, hst⟩ => ?_, fun s3 H3' ⟨u6, vh, u12, here, W3, es, mm3, hW3, hvh, I3, hkeep, hfar, hend, hin, hst⟩ => ?_⟩
        · subst es
          have hfh := hfar (by omega)
          have hhS : here ∈ rest b c := (B.key here _ hfh).1
          have hW3l : W3.length ≤ 1000 := by
            have := nodup_len (xs := W3.map (·.1)) (ys := rest b c) I3.nd fun x hx => I3.sub x (dget_some.mpr hx)
            rw [List.length_map] at this
            omega
          refine q_dput (c := here) (x := true) hW3 ev_bl (ev_vr rfl) (ev_var rfl hvh) (by omega) fun H11 e11 H12 b12 hW12 => ?_
          have mm12 : Mv [pw] H10 H12 := (mm3.ex e11).but b12 (.inl List.mem_cons_self)
          have hvh12 : En H12 vh here := Enc.mono b12.tu (en_up e11 hvh)
          have hf12 : Dc (β := Int) H12 pf fr := (hf9.up e10).mv (mem1 hwf) mm12
          have I12 := I3.stay hhS
          refine q_asgN ((en_lcL (f := fun x => x) (p := fun x => decide (dget fr x = some (v0 - lap - 1))) (ew_c1 (P1 := en here) (ea_cons (ev_var rfl hvh12) ea_nil) ⟨_, rfl, rfl⟩).p (Nat.le_of_ble_eq_true rfl) fun x u H'' hx e'' hu => ⟨eb_test (ev_eqO (ev_getO (ev_ds rfl (hf12.up e'')) (ev_var rfl hu)) (ev_I (ev_dget (ev_ds rfl (hf12.up e'')) (ev_var rfl (en_up e'' hvh12)) hfh) ev_int)), fun _ => ev_var rfl hu⟩).is (List.map_id' _)) fun p12 H13 n13 e13 h13 => ?_
          have hnx : ∀ x, x ∈ (nbs here).filter (fun x => decide (dget fr x = some (v0 - lap - 1))) ↔ x ∈ nbs here ∧ dget fr x = some (v0 - lap - 1) := fun x => by rw [List.mem_filter, decide_eq_true_iff]
          generalize (nbs here).filter (fun x => decide (dget fr x = some (v0 - lap - 1))) = nx at h13 hnx
          have mm13 := mm12.ex e13
          refine s_ifN (eb_test (ev_neL (ev_li rfl h13) en_nil.li)) (fun hb H14 e14 => ?_) fun hb H14 e14 => ?_
          · have hne' : nx ≠ [] := by simpa using hb
            refine s_asg (ev_minM (ev_li rfl (h13.up e14)) hne') fun v15 H15 e15 ⟨there, ht, hv15⟩ => ?_
            obtain ⟨ht1, ht2⟩ := (hnx there).mp ht
            have h0 := (B.key there _ ht2).2.1
            refine ⟨_, _, _, there, _, rfl, (mm13.ex e14).ex e15, hW12.up ((e13.tr e14).tr e15), hv15, I12.go ht1, fun x hx => put_in.mpr (.inr (hkeep x hx)), fun _ => ?_, fun h => by omega, fun _ => ?_, fun h => by omega⟩
            · rw [ht2]
              congr 1
              omega
            · by_cases hl0 : lap = 0
              · exact put_in.mpr (.inl (hst hl0).symm)
              · exact put_in.mpr (.inr (hin (by omega)))
          · have hnil : nx = [] := by simpa using hb
            have hz : v0 - lap = 0 := Classical.byContradiction fun z => by
              obtain ⟨y, hy1, hy2⟩ := B.par here _ hfh (by omega)
              have := (hnx y).mpr ⟨hy1, hy2⟩
              rw [hnil] at this
              cases this
            have hhr : here = root := by
              refine (B.key here _ hfh).2.2.2.1.mp hz
            refine ⟨_, _, _, here, _, rfl, mm13.ex e14, hW12.up (e13.tr e14), en_up (e13.tr e14) hvh12, I12, fun x hx => put_in.mpr (.inr (hkeep x hx)), fun h => by omega, fun _ => ⟨hhr, put_in.mpr (.inl hhr.symm)⟩, fun _ => ?_, fun h => by omega⟩
            by_cases hl0 : lap = 0
            · exact put_in.mpr (.inl (hst hl0).symm)
            · exact put_in.mpr (.inr (hin (by omega)))
        · subst es
          have hnn : ((v0 + 1).toNat : Int) = v0 + 1 := by omega
          obtain ⟨hhr, hrt⟩ := hend hnn
          subst hhr
          refine ⟨_, _, _, _, _, W3, rfl, ((mm2.ex e9).ex e10).tr mm3, hW3, I3, fun x hx => ?_⟩
          rw [take_snoc hcell] at hx
          rcases List.mem_append.mp hx with h | h
          · exact hkeep x (hhas x h)
          · rw [List.mem_singleton.mp h]
            exact hin (by omega)
      · subst es
        rw [List.take_length] at hhas
        have mmz : Ex H H2' := ((e0'.tr e7).tr e8).mv mm2 (no1 (e0'.back nw))
        refine s_ret (ev_tupleL rfl (en_sort (en_keys rfl (ev_ds rfl hW)).li (.inl fun x _ => ⟨_, _, rfl⟩)).li) fun v H9 e9 hv => q v H9 (mmz.tr e9) ⟨_, I.wit (hhas root List.mem_cons_self) fun z h1 h2 => hhas z ((hnear z).mpr ⟨h1, (rest_near h1).mpr h2⟩), hv⟩
end
end TB
set_option Elab.async false
set_option linter.all false
set_option maxRecDepth 100000
set_option maxHeartbeats 2000000
/-! M4: what a move leaves whole. -/
namespace TB
theorem supp_cases {q : Cell → Bool} {s e : Cell} {sup : List Cell} {r : List (List Cell)} (h : supp q s e = sup :: r) : (q s = true ∧ q e = false ∧ mx (ab (e.1 - s.1)) (ab (e.2 - s.2)) = 1) ∧
    ((e.1 - s.1 ≠ 0 ∧ e.2 - s.2 ≠ 0 ∧ q (e.1, s.2) ≠ q (s.1, e.2) ∧ sup = [if q (e.1, s.2) = true then (e.1, s.2) else (s.1, e.2)]) ∨
     ((e.1 - s.1 = 0 ∨ e.2 - s.2 = 0) ∧ ∃ g : Int, (g = 1 ∨ g = -1) ∧ q (s.1 + g * (e.2 - s.2), s.2 + g * (e.1 - s.1)) = true ∧ q (e.1 + g * (e.2 - s.2), e.2 + g * (e.1 - s.1)) = true ∧ sup = srt [(s.1 + g * (e.2 - s.2), s.2 + g * (e.1 - s.1)), (e.1 + g * (e.2 - s.2), e.2 + g * (e.1 - s.1))])) := by
  unfold supp at h
  split at h
  · cases h
  · rename_i h1
    simp only [Bool.or_eq_true, Bool.not_eq_true', decide_eq_false_iff_not, not_or, Bool.not_eq_false, Bool.not_eq_true, Decidable.not_not] at h1
    refine ⟨⟨h1.1, h1.2.1, h1.2.2⟩, ?_⟩
    split at h
    · rename_i h2
      simp only [Bool.and_eq_true, Bool.not_eq_true', decide_eq_false_iff_not] at h2
      split at h
      · rename_i h3
        simp only [Bool.not_eq_true', decide_eq_false_iff_not] at h3
        injection h with h4 h5
        refine .inl ⟨h2.1, h2.2, h3, ?_⟩
        rw [← h4]
        split <;> rfl
      · cases h
    · rename_i h2
      simp only [Bool.and_eq_true, Bool.not_eq_true', decide_eq_false_iff_not, not_and, Decidable.not_not] at h2
      have hm : sup ∈ (([1, -1].filter fun g : Int => q (s.1 + g * (e.2 - s.2), s.2 + g * (e.1 - s.1)) && q (e.1 + g * (e.2 - s.2), e.2 + g * (e.1 - s.1))).map fun g => srt [(s.1 + g * (e.2 - s.2), s.2 + g * (e.1 - s.1)), (e.1 + g * (e.2 - s.2), e.2 + g * (e.1 - s.1))]) := by
        rw [← srt_mem, h]
        exact List.mem_cons_self
      obtain ⟨g, hg, e1⟩ := List.mem_map.mp hm
      obtain ⟨g1, g2⟩ := List.mem_filter.mp hg
      rw [Bool.and_eq_true] at g2
      refine .inr ⟨?_, g, ?_, g2.1, g2.2, e1.symm⟩
      · by_cases z : e.1 - s.1 = 0
        · exact .inl z
        · exact .inr (h2 z)
      · simpa using g1
theorem ab_le {i j : Int} (h : mx (ab i) (ab j) = 1) : (i = 0 ∨ i = 1 ∨ i = -1) ∧ (j = 0 ∨ j = 1 ∨ j = -1) ∧ (i ≠ 0 ∨ j ≠ 0) := by
  unfold mx ab at h
  split at h <;> split at h <;> split at h <;> omega
theorem ne_cons {α : Type} {xs : List α} (h : xs ≠ []) : ∃ x r, xs = x :: r := by
  cases xs with
  | nil => exact absurd rfl h
  | cons x r => exact ⟨x, r, rfl⟩
theorem supp_touch {q : Cell → Bool} {s e : Cell} (h : supp q s e ≠ []) : ∃ z, z ∈ nbs e ∧ q z = true ∧ z ≠ s := by
  obtain ⟨sup, r, h⟩ := ne_cons h
  obtain ⟨⟨_, _, hm⟩, hc⟩ := supp_cases h
  obtain ⟨hi, hj, hij⟩ := ab_le hm
  obtain ⟨s1, s2⟩ := s
  obtain ⟨e1, e2⟩ := e
  simp only at hc hi hj hij
  rcases hc with ⟨h1, h2, h3, _⟩ | ⟨h1, g, hg, _, h3, _⟩
  · cases hq : q (e1, s2) with
    | true =>
      refine ⟨(e1, s2), ?_, hq, fun z => ?_⟩
      · simp only [nbs, List.mem_cons, Prod.mk.injEq, List.not_mem_nil, or_false, true_and, and_true]
        omega
      · injection z with z1 z2
        omega
    | false =>
      refine ⟨(s1, e2), ?_, ?_, fun z => ?_⟩
      · simp only [nbs, List.mem_cons, Prod.mk.injEq, List.not_mem_nil, or_false, true_and, and_true]
        omega
      · cases hq2 : q (s1, e2) with
        | true => rfl
        | false => exact absurd (hq.trans hq2.symm) h3
      · injection z with z1 z2
        omega
  · refine ⟨(e1 + g * (e2 - s2), e2 + g * (e1 - s1)), ?_, h3, fun z => ?_⟩
    · simp only [nbs, List.mem_cons, Prod.mk.injEq, List.not_mem_nil, or_false]
      rcases hg with rfl | rfl <;> omega
    · injection z with z1 z2
      rcases hg with rfl | rfl <;> omega
theorem supp_len {q : Cell → Bool} {s e : Cell} {sup : List Cell} {r : List (List Cell)} (h : supp q s e = sup :: r) : sup.length ≤ 2 := by
  rcases (supp_cases h).2 with ⟨_, _, _, rfl⟩ | ⟨_, g, _, _, _, rfl⟩
  · exact Nat.le_succ 1
  · rw [srt_len]
    exact Nat.le_refl _
/-- the same support holds wherever what was read is as it was -/
theorem supp_stay {q q' : Cell → Bool} {s e : Cell} {sup : List Cell} {r : List (List Cell)} (h : supp q s e = sup :: r) (hs : q' s = q s) (he : q' e = q e) (hn : ∀ z, z ∈ nbs s → q' z = q z) (hu : ∀ z, z ∈ sup → q' z = q z) : supp q' s e ≠ [] := by
  obtain ⟨⟨a1, a2, hm⟩, hc⟩ := supp_cases h
  obtain ⟨hi, hj, hij⟩ := ab_le hm
  unfold supp
  rw [if_neg (by rw [hs, he, a1, a2, hm]; simp)]
  rcases hc with ⟨h1, h2, h3, _⟩ | ⟨h1, g, hg, k1, k2, hsup⟩
  · rw [if_pos (by simp [h1, h2])]
    have m1 : (e.1, s.2) ∈ nbs s := by
      simp only [nbs, List.mem_cons, Prod.mk.injEq, List.not_mem_nil, or_false, true_and, and_true]
      omega
    have m2 : (s.1, e.2) ∈ nbs s := by
      simp only [nbs, List.mem_cons, Prod.mk.injEq, List.not_mem_nil, or_false, true_and, and_true]
      omega
    rw [hn _ m1, hn _ m2, if_pos (by simpa using h3)]
    exact List.cons_ne_nil _ _
  · rw [if_neg (by simp only [Bool.and_eq_true, Bool.not_eq_true', decide_eq_false_iff_not]; omega)]
    intro z
    have u1 : (s.1 + g * (e.2 - s.2), s.2 + g * (e.1 - s.1)) ∈ sup := by
      rw [hsup, srt_mem]
      exact List.mem_cons_self
    have u2 : (e.1 + g * (e.2 - s.2), e.2 + g * (e.1 - s.1)) ∈ sup := by
      rw [hsup, srt_mem]
      exact List.mem_cons_of_mem _ List.mem_cons_self
    have hin : g ∈ [1, -1].filter fun g : Int => q' (s.1 + g * (e.2 - s.2), s.2 + g * (e.1 - s.1)) && q' (e.1 + g * (e.2 - s.2), e.2 + g * (e.1 - s.1)) := by
      refine List.mem_filter.mpr ⟨by simpa using hg, ?_⟩
      rw [hu _ u1, hu _ u2, k1, k2]
      rfl
    have hin2 := srt_mem.mpr (List.mem_map_of_mem (f := fun g => srt [(s.1 + g * (e.2 - s.2), s.2 + g * (e.1 - s.1)), (e.1 + g * (e.2 - s.2), e.2 + g * (e.1 - s.1))]) hin)
    rw [z] at hin2
    cases hin2
theorem hang_add {cs : List Cell} {e z : Cell} (h : Hang cs) (hz : z ∈ cs) (hn : z ∈ nbs e) : Hang (cs ++ [e]) := by
  refine hang_of (c := z) (List.mem_append_left _ hz) fun x hx => ?_
  rcases List.mem_append.mp hx with q | q
  · exact (h.2 z hz x q).wide fun a ha => List.mem_append_left _ ha
  · rw [List.mem_singleton.mp q]
    exact .step (.refl (List.mem_append_left _ hz)) (nbs_symm hn) (List.mem_append_right _ List.mem_cons_self)
theorem hang_done {b : List Cell} {s e : Cell} (h : okMove b s e = true) : Hang (done b s e) := by
  obtain ⟨h1, h2⟩ := okMove_iff.mp h
  obtain ⟨z, hz, hq, hne⟩ := supp_touch h1
  refine (hang_add h2 (mem_rest.mpr ⟨of_decide_eq_true hq, hne⟩) hz).perm fun x => ?_
  unfold done
  rw [srt_mem]
theorem near_of {S : Cell → Prop} {s x : Cell} (h : Reach S s x) : x = s ∨ ∃ z, z ∈ nbs s ∧ S z := by
  induction h with
  | refl _ => exact .inl rfl
  | step h a st ih =>
    right
    rcases ih with e | e
    · subst e
      exact ⟨_, a, st⟩
    · exact e
theorem near_ex {b : List Cell} {s : Cell} (hb : Hang b) (hs : s ∈ b) (hr : Hang (rest b s)) : ∃ z, z ∈ nbs s ∧ z ∈ b := by
  obtain ⟨x, r, e⟩ := ne_cons hr.1
  have hx : x ∈ rest b s := by rw [e]; exact List.mem_cons_self
  obtain ⟨h1, h2⟩ := mem_rest.mp hx
  rcases near_of (hb.2 s hs x h1) with q | q
  · exact absurd q h2
  · exact q
theorem endB_hang {b : List Cell} {pl : List (Cell × Cell)} (hb : Hang b) (h : okPlan b pl = true) : Hang (endB b pl) := by
  induction pl using snocInd with
  | h0 => exact hb
  | h1 r x ih =>
    rw [okPlan_snoc, Bool.and_eq_true] at h
    rw [endB_snoc]
    exact hang_done h.2
theorem rest_nd {b : List Cell} {s : Cell} (h : b.Nodup) : (rest b s).Nodup := h.filter _
theorem done_nd {b : List Cell} {s e : Cell} (h : b.Nodup) (he : e ∉ b) : (done b s e).Nodup := by
  unfold done
  refine (srt_perm _).nodup_iff.mpr ?_
  rw [List.nodup_append]
  refine ⟨rest_nd h, by simp, fun a ha c hc z => he ?_⟩
  rw [List.mem_singleton.mp hc] at z
  rw [← z]
  exact (mem_rest.mp ha).1
theorem endB_nd {b : List Cell} {pl : List (Cell × Cell)} (hb : b.Nodup) (h : okPlan b pl = true) : (endB b pl).Nodup := by
  induction pl using snocInd with
  | h0 => exact hb
  | h1 r x ih =>
    rw [okPlan_snoc, Bool.and_eq_true] at h
    rw [endB_snoc]
    exact done_nd (ih h.1) (okMove_in h.2).2
/-- what papers tell of one step -/
structure PapOk (b : List Cell) (m : Cell × Cell) (p : Paper) : Prop where
  s : p.s = m.1
  e : p.e = m.2
  sup : ∃ r, supp (isIn b) m.1 m.2 = p.sup :: r
  wit : IsWit b m.1 p.wit
/-- papers of a plan -/
def IsPap (b : List Cell) (pl : List (Cell × Cell)) (ps : List Paper) : Prop := ps.length = pl.length ∧ ∀ i m p, pl[i]? = some m → ps[i]? = some p → PapOk (endB b (pl.take i)) m p
theorem IsPap.snoc {b : List Cell} {pl : List (Cell × Cell)} {ps : List Paper} {m : Cell × Cell} {p : Paper} (h : IsPap b pl ps) (hp : PapOk (endB b pl) m p) : IsPap b (pl ++ [m]) (ps ++ [p]) := by
  obtain ⟨h1, h2⟩ := h
  refine ⟨by rw [List.length_append, List.length_append, h1]; rfl, fun i m' p' hm' hp' => ?_⟩
  by_cases e : i < pl.length
  · rw [List.getElem?_append_left e] at hm'
    rw [List.getElem?_append_left (by omega)] at hp'
    rw [List.take_append_of_le_length (by omega)]
    exact h2 i m' p' hm' hp'
  · have hi : i = pl.length := by
      have := (List.getElem?_eq_some_iff.mp hm').1
      rw [List.length_append, List.length_singleton] at this
      omega
    subst hi
    rw [List.getElem?_append_right (Nat.le_refl _), Nat.sub_self] at hm'
    rw [List.getElem?_append_right (by omega), show pl.length - ps.length = 0 by omega] at hp'
    cases hm'
    cases hp'
    rw [List.take_append_of_le_length (Nat.le_refl _), List.take_length]
    exact hp
end TB
set_option Elab.async false
set_option linter.all false
set_option maxRecDepth 100000
set_option maxHeartbeats 4000000
/-! D15: papers. -/
namespace TB
open PySem PySem.Spec PyProof.Rows L2
section
variable {s : TSt} {H : Hp} {t1 t2 t3 t4 : TE}
theorem ev_paperX {x y : Cell} {z : List Cell} {C : List Cell → Prop} (h1 : EvP t1 s H (en x)) (h2 : EvP t2 s H (en y)) (h3 : EvP t3 s H (en z)) (h4 : EvP t4 s H (enX C)) : EvP (tTup (tCons t1 (tCons t2 (tCons t3 (tCons t4 tNil))))) s H (enX fun p : Paper => p.s = x ∧ p.e = y ∧ p.sup = z ∧ C p.wit) := fun H1 e Q q =>
  h1 H1 e _ fun v1 Ha e1 g1 => h2 Ha (e.tr e1) _ fun v2 Hb e2 g2 => h3 Hb ((e.tr e1).tr e2) _ fun v3 Hc e3 g3 => h4 Hc (((e.tr e1).tr e2).tr e3) _ fun v4 Hd e4 ⟨w, hw, g4⟩ => ⟨(by show 4 ≤ sizeLine; decide), fun p hp =>
    have eN := Ex.new (o := HO.tup [v1, v2, v3, v4]) hp
    q _ _ ((((e1.tr e2).tr e3).tr e4).tr eN) ⟨⟨x, y, z, w⟩, ⟨rfl, rfl, rfl, hw⟩, p, v1, v2, v3, v4, rfl, upd_same, en_up (((e2.tr e3).tr e4).tr eN) g1, en_up ((e3.tr e4).tr eN) g2, en_up (e4.tr eN) g3, en_up eN g4⟩⟩
/-- xs.append(e), e told by C -/
theorem q_appX {K : PySem.W.Frag} {α : Type} [DecidableEq α] [Enc α] {D : Ends} {u : TS} {ta te : TE} {l : Addr} {xs : List α} {C : α → Prop} (hl : Ls H l xs) (ha : EvP ta s H (va (.ref l))) (h : EvP te s H (enX C)) (hz : xs.length < 1000000) (k : ∀ x H1, C x → Ex H H1 → ∀ H2, Bt l H1 H2 → Ls H2 l (xs ++ [x]) → u D s H2) :
    tSeq (tDrop (tBM K "list" rAppend ta (tCons te tNil))) u D s H := ha H Ex.same _ fun v H1 e1 hv => by
  obtain rfl : v = .ref l := hv
  obtain ⟨us0, g0, _⟩ := hl.up e1
  refine ⟨.inl ⟨rfl, us0, .inl (.inl g0)⟩, h H1 e1 _ fun w H2 e2 ⟨x, hx, hw⟩ => ?_⟩
  obtain ⟨us, g1, g2⟩ := hl.up (e1.tr e2)
  have bt : Bt l H2 (upd H2 l (.lst (us ++ [w]))) := ⟨Tu.mutL g1, fun q hq => upd_ne hq⟩
  exact ⟨l, us, w, rfl, rfl, g1, by rw [g2.length]; exact sz_lt (Nat.le_of_lt hz), k x H2 hx (e1.tr e2) _ bt ⟨_, upd_same, paired_app (paired_map g2 fun _ _ z => Enc.mono bt.tu z) (.cons (Enc.mono bt.tu hw) .nil)⟩⟩
end
section
variable {P : Program} {w : World} {K : PySem.W.Frag} {mg : Str → Option Value} {base : Heap}
abbrev s_law_t2_papers : Stmt := topS 57
abbrev n_law_t2_papers : List Str := ["_law_body", "_law_plan", "_law_found", "_law_here", "_law_start", "_law_end", "_law_support"]
theorem sc_law_t2_papers : FnScope n_law_t2_papers ["_law_body", "_law_plan"] (defScope s_law_t2_papers) := ⟨rfl, rfl, rfl, by decide +kernel, rfl, by decide +kernel, by decide +kernel⟩
def spPapers : Sp := S2W fun P1 P2 Pz => ∃ (b : List Cell) (pl : List (Cell × Cell)), P1 = en b ∧ P2 = li pl ∧ b.length ≤ 1000 ∧ pl.length ≤ 1000 ∧ Hang b ∧ okPlan b pl = true ∧ Pz = liX (IsPap b pl)
theorem ok_law_papers (T : Txt K mg "_law_t2_papers" "_law_t2_papers" s_law_t2_papers ["_law_body", "_law_plan"]) (Z : Blt mg) (C_law_t2_supports : Cal P w K mg base 1 "_law_t2_supports" ["_law_squares", "_law_start", "_law_end"] spSupports)
    (C_law_t2_squares : Cal P w K mg base 1 "_law_t2_squares" ["_law_body"] spSquares) (C_law_t2_witness : Cal P w K mg base 2 "_law_t2_witness" ["_law_body", "_law_start"] spWitness) (C_law_t2_done : Cal P w K mg base 1 "_law_t2_done" ["_law_body", "_law_start", "_law_end"] spDone) : Cal P w K mg base 3 "_law_t2_papers" ["_law_body", "_law_plan"] spPapers :=
  T.cal sc_law_t2_papers S2W.len fun f cdv A outer s H vs Q E hr h => by
    obtain ⟨v1, v2, P1, P2, Pz, rfl, ⟨b, pl, rfl, rfl, hlen, hlen2, hhang, hok, rfl⟩, hb, ⟨a, rfl, ha⟩, q⟩ := h
    refine ⟨_, (pss_cons (ps_par (i := 2) (j := 3) rfl sc_law_t2_papers.nd rfl rfl (by decide) rfl rfl (pa_cons (pe_lst pa_nil) (pa_cons (pv 0) pa_nil)) (by rfl))
      (pss_cons (ps_for PassesOwn.never rfl (pi_list (pv 1)) (pg_tup rfl (pgs_cons (pg_name (i := 4) sc_law_t2_papers.nd rfl (Or.inl rfl)) (pgs_cons (pg_name (i := 5) sc_law_t2_papers.nd rfl (Or.inl rfl)) pgs_nil))) (pss_cons (ps_set (i := 6) sc_law_t2_papers.nd rfl (Or.inl rfl) (pe_ix ix_list (pe_cal C_law_t2_supports (hr.mono (by decide)) (pa_cons (pe_cal C_law_t2_squares (hr.mono (by decide)) (pa_cons (pv 3) pa_nil)) (pa_cons (pv 4) (pa_cons (pv 5) pa_nil)))) pe_int (fun _ _ => rfl)))
      (pss_cons (ps_expr (pe_bm PySem.F.plainAttrs_list PySem.F.slot_list_append PySem.F.type_list_append mt_append (pv 2) (pa_cons (pe_tup (pa_cons (pv 4) (pa_cons (pv 5) (pa_cons (pv 6) (pa_cons (pe_cal C_law_t2_witness (hr.mono (by decide)) (pa_cons (pv 3) (pa_cons (pv 4) pa_nil))) pa_nil))))) pa_nil)))
      (pss_one (ps_set (i := 3) sc_law_t2_papers.nd rfl (Or.inl rfl) (pe_cal C_law_t2_done (hr.mono (by decide)) (pa_cons (pv 3) (pa_cons (pv 4) (pa_cons (pv 5) pa_nil)))))))))
      (pss_one (ps_ret (pv 2))))), ?_⟩
    refine q_parWP (en_nil (α := Paper)).w (P2 := en b) (ev_var rfl hb) fun pf vh H1 nf e1 hf hvh => ?_
    replace hf := li_at hf
    refine q_forA [pf] (ha.up e1) (ev_vr rfl) (mem1 (ha.ne_new nf)) fun H2 e2 => ⟨fun i s' H' => ∃ vh u4 u5 u6 ps, s' = [some v1, some (.ref a), some (.ref pf), some vh, u4, u5, u6] ∧ Mv [pf] H2 H' ∧ En H' vh (endB b (pl.take i)) ∧ Ls H' pf ps ∧ IsPap b (pl.take i) ps ∧ okPlan b (pl.take i) = true,
      ⟨vh, _, _, _, [], rfl, Mv.same, en_up e2 hvh, hf.up e2, ⟨rfl, fun i m p hm => by simp at hm⟩, rfl⟩, fun i s' H' ⟨_, _, _, _, _, _, mm, _⟩ => mm, fun i m v s' H' hm hv ⟨vh, u4, u5, u6, ps, es, mm, hvh, hps, hpap, hokp⟩ => ?_, fun s' H' ⟨vh, u4, u5, u6, ps, es, mm, hvh, hps, hpap, hokp⟩ => ?_⟩
    · subst es
      refine g_pair hv fun w1 w2 k1 k2 => ?_
      have hokn : okPlan b (pl.take (i + 1)) = true := by
        have h1 : ∀ (pl r : List (Cell × Cell)) (b : List Cell), okPlan b (pl ++ r) = true → okPlan b pl = true := fun pl r => by
          induction r using snocInd with
          | h0 => intro b h; rwa [List.append_nil] at h
          | h1 r x ih =>
            intro b h
            rw [← List.append_assoc, okPlan_snoc, Bool.and_eq_true] at h
            exact ih b h.1
        refine h1 (pl.take (i + 1)) (pl.drop (i + 1)) b ?_
        rw [List.take_append_drop]
        exact hok
      have hok1 : okMove (endB b (pl.take i)) m.1 m.2 = true := by
        rw [take_snoc hm, okPlan_snoc, Bool.and_eq_true] at hokn
        exact hokn.2
      have hel : (endB b (pl.take i)).length ≤ 1000 := Nat.le_trans (endB_len hokp) hlen
      obtain ⟨hsn, hfree⟩ := okMove_iff.mp hok1
      obtain ⟨sup, r, hsup⟩ := ne_cons hsn
      have hargs : ∀ {s : TSt} {H3}, s[3]? = some (some vh) → s[4]? = some (some w1) → s[5]? = some (some w2) → Ex H' H3 → True := fun _ _ _ _ => trivial
      refine q_asg (P := en sup) (ev_ixL (xs := sup :: r) (i := 0) ?_ ev_int (atI_nat (j := 0) rfl)) fun v6 H3 e3 hv6 => ?_
      · refine (ew_c3 (P1 := ds (dall (endB b (pl.take i)))) (P2 := en m.1) (P3 := en m.2) (ea_cons (ew_c1 (P1 := en (endB b (pl.take i))) (ea_cons (ev_var rfl hvh) ea_nil) ⟨_, .inl rfl, hel, rfl⟩).p (ea_cons (ev_var rfl k1) (ea_cons (ev_var rfl k2) ea_nil))) ⟨_, _, _, rfl, rfl, rfl, ?_⟩).p
        rw [dall_in, hsup]
      · have hpsl : ps.length ≤ 1000 := by
          rw [hpap.1]
          exact Nat.le_trans (List.length_take_le' i pl) hlen2
        refine q_appX (hps.up e3) (ev_vr rfl) (ev_paperX (ev_var rfl (en_up e3 k1)) (ev_var rfl (en_up e3 k2)) (ev_var rfl hv6) (ev_c2 (P1 := en (endB b (pl.take i))) (P2 := en m.1) (ea_cons (ev_var rfl (en_up e3 hvh)) (ea_cons (ev_var rfl (en_up e3 k1)) ea_nil)) ⟨_, _, rfl, rfl, hel, hfree, near_ex (endB_hang hhang hokp) (okMove_in hok1).1 hfree, rfl⟩)) (by omega) fun p H4 hp e4 H5 b5 hps5 => ?_
        refine s_asg (P := en (done (endB b (pl.take i)) m.1 m.2)) (ev_c3 (ea_cons (ev_var rfl (Enc.mono b5.tu (en_up (e3.tr e4) hvh))) (ea_cons (ev_var rfl (Enc.mono b5.tu (en_up (e3.tr e4) k1))) (ea_cons (ev_var rfl (Enc.mono b5.tu (en_up (e3.tr e4) k2))) ea_nil))) ⟨_, _, _, rfl, rfl, rfl, hel, rfl⟩) fun v6 H6 e6 hv6 => ?_
        refine ⟨_, _, _, _, ps ++ [p], rfl, (((mm.ex e3).ex e4).but b5 (.inl List.mem_cons_self)).ex e6, ?_, hps5.up e6, ?_, hokn⟩
        · rw [take_snoc hm, endB_snoc]
          exact hv6
        · rw [take_snoc hm]
          exact hpap.snoc ⟨hp.1, hp.2.1, ⟨r, by rw [hp.2.2.1]; exact hsup⟩, hp.2.2.2⟩
    · subst es
      rw [List.take_length] at hpap
      have hE : Ex H H' := (e1.tr e2).mv mm (no1 nf)
      refine s_ret (P := va (.ref pf)) (ev_vr rfl) fun v H9 e9 hv => ?_
      obtain rfl : v = .ref pf := hv
      exact q pf H9 nf (hps.up e9).nn (hE.tr e9) ⟨ps, hpap, pf, rfl, hps.up e9⟩
end
end TB
set_option Elab.async false
set_option linter.all false
set_option maxRecDepth 100000
set_option maxHeartbeats 2000000
/-! M9: how far the squares are, exactly; the told ways; the told witness is one. -/
namespace TB
open PySem PySem.Spec PyProof.Rows L2
/-- how far all squares are from the root -/
structure FarOf (S : Cell → Prop) (root : Cell) (F : Cell → Option Int) : Prop where
  key : ∀ x v, F x = some v → S x ∧ 0 ≤ v ∧ (v = 0 ↔ x = root)
  par : ∀ x v, F x = some v → 1 ≤ v → ∃ y, y ∈ nbs x ∧ F y = some (v - 1)
  lip : ∀ x v y u, F x = some v → y ∈ nbs x → F y = some u → u ≤ v + 1
  all : ∀ x, S x → ∃ v, F x = some v
theorem FarOf.le {S : Cell → Prop} {root : Cell} {F G : Cell → Option Int} (hF : FarOf S root F) (hG : FarOf S root G) : ∀ (n : Nat) (x : Cell) (u v : Int), F x = some u → G x = some v → v.toNat = n → u ≤ v := by
  intro n
  induction n with
  | zero =>
    intro x u v hu hv hn
    obtain ⟨_, v0, vr⟩ := hG.key x v hv
    have hx : x = root := vr.mp (by omega)
    have := (hF.key x u hu).2.2.mpr hx
    omega
  | succ n ih =>
    intro x u v hu hv hn
    obtain ⟨y, hy, hgy⟩ := hG.par x v hv (by omega)
    obtain ⟨hs, _, _⟩ := hG.key y _ hgy
    obtain ⟨u', hu'⟩ := hF.all y hs
    have h1 := ih y u' (v - 1) hu' hgy (by omega)
    have h2 := hF.lip y u' x u hu' (nbs_symm hy) hu
    omega
theorem FarOf.one {S : Cell → Prop} {root : Cell} {F G : Cell → Option Int} (hF : FarOf S root F) (hG : FarOf S root G) : F = G := by
  funext x
  cases hf : F x with
  | none =>
    cases hg : G x with
    | none => rfl
    | some v =>
      obtain ⟨u, hu⟩ := hF.all x (hG.key x v hg).1
      rw [hf] at hu
      cases hu
  | some u =>
    obtain ⟨v, hv⟩ := hG.all x (hF.key x u hf).1
    have h1 := hF.le hG _ x u v hf hv rfl
    have h2 := hG.le hF _ x v u hv hf rfl
    rw [hv]
    congr 1
    omega
/-! the told ways -/
def cand (F : Cell → Option Int) (x : Cell) : List Cell := (nbs x).filter fun y => decide (F y = some ((F x).getD 0 - 1))
def nxt (F : Cell → Option Int) (x : Cell) : Cell := match cand F x with
  | [] => x
  | y :: r => leastOf y r
def pth (F : Cell → Option Int) : Nat → Cell → List Cell
  | 0, x => [x]
  | k + 1, x => x :: pth F k (nxt F x)
def wayv (F : Cell → Option Int) (x : Cell) : List Cell := pth F ((F x).getD 0).toNat x
def witL (F : Cell → Option Int) (near : List Cell) : List Cell := near.flatMap (wayv F)
def nearL (b : List Cell) (s : Cell) : List Cell := srt ((nbs s).filter fun z => decide (z ∈ b))
theorem mem_nearL {b : List Cell} {s z : Cell} : z ∈ nearL b s ↔ z ∈ nbs s ∧ z ∈ b := by
  unfold nearL
  rw [srt_mem, List.mem_filter, decide_eq_true_iff]
theorem nxt_cons {F : Cell → Option Int} {x y : Cell} {r : List Cell} (h : cand F x = y :: r) : nxt F x = leastOf y r := by
  unfold nxt
  rw [h]
theorem FarOf.goN {S : Cell → Prop} {root : Cell} {F : Cell → Option Int} (hF : FarOf S root F) {x : Cell} {v : Int} (h : F x = some v) (h1 : 1 ≤ v) : nxt F x ∈ nbs x ∧ F (nxt F x) = some (v - 1) := by
  obtain ⟨y, hy, hfy⟩ := hF.par x v h h1
  have hc : y ∈ cand F x := List.mem_filter.mpr ⟨hy, by rw [h]; exact decide_eq_true hfy⟩
  have hcn : cand F x ≠ [] := fun z => by
    rw [z] at hc
    cases hc
  obtain ⟨z, r, e⟩ := ne_cons hcn
  rw [nxt_cons e]
  have hm : leastOf z r ∈ cand F x := by
    rw [e]
    exact leastOf_mem z r
  obtain ⟨a, b⟩ := List.mem_filter.mp hm
  rw [h] at b
  exact ⟨a, of_decide_eq_true b⟩
/-- the way leads to the root, all in S, linked -/
theorem FarOf.way {S : Cell → Prop} {root : Cell} {F : Cell → Option Int} (hF : FarOf S root F) : ∀ (k : Nat) (x : Cell), F x = some (k : Int) → (∀ y, y ∈ pth F k x → S y) ∧ root ∈ pth F k x ∧ ∀ y, y ∈ pth F k x → Reach (fun z => z ∈ pth F k x) y root := by
  intro k
  induction k with
  | zero =>
    intro x h
    obtain ⟨hs, _, hr⟩ := hF.key x _ h
    have hx : x = root := hr.mp rfl
    subst hx
    refine ⟨fun y hy => ?_, List.mem_cons_self, fun y hy => ?_⟩
    · rw [List.mem_singleton.mp hy]
      exact hs
    · rw [List.mem_singleton.mp hy]
      exact .refl List.mem_cons_self
  | succ k ih =>
    intro x h
    obtain ⟨n1, n2⟩ := hF.goN h (by omega)
    obtain ⟨a, b, c⟩ := ih (nxt F x) (by rw [n2]; congr 1; omega)
    have hmem : ∀ z, z ∈ pth F k (nxt F x) → z ∈ pth F (k + 1) x := fun z hz => List.mem_cons_of_mem _ hz
    have hfirst : ∀ (k : Nat) (z : Cell), z ∈ pth F k z := fun k z => by
      cases k with
      | zero => exact List.mem_cons_self
      | succ k => exact List.mem_cons_self
    refine ⟨fun y hy => ?_, hmem _ b, fun y hy => ?_⟩
    · rcases List.mem_cons.mp hy with e | hy
      · rw [e]
        exact (hF.key x _ h).1
      · exact a y hy
    · rcases List.mem_cons.mp hy with e | hy
      · rw [e]
        have h1 : Reach (fun z => z ∈ pth F (k + 1) x) (nxt F x) root := (c _ (hfirst k _)).wide hmem
        have h2 : Reach (fun z => z ∈ pth F (k + 1) x) x (nxt F x) := .step (.refl List.mem_cons_self) n1 (hmem _ (hfirst k _))
        exact h2.tr h1
      · exact (c y hy).wide hmem
theorem FarOf.pvW {S : Cell → Prop} {root : Cell} {F : Cell → Option Int} (hF : FarOf S root F) {x : Cell} (h : S x) : x ∈ wayv F x ∧ (∀ y, y ∈ wayv F x → S y) ∧ root ∈ wayv F x ∧ ∀ y, y ∈ wayv F x → Reach (fun z => z ∈ wayv F x) y root := by
  obtain ⟨v, hv⟩ := hF.all x h
  obtain ⟨_, v0, _⟩ := hF.key x v hv
  obtain ⟨n, rfl⟩ := Int.eq_ofNat_of_zero_le v0
  have e : wayv F x = pth F n x := by
    unfold wayv
    rw [hv]
    rfl
  rw [e]
  refine ⟨?_, hF.way n x hv⟩
  cases n with
  | zero => exact List.mem_cons_self
  | succ k => exact List.mem_cons_self
/-- the told witness -/
def WitOf (b : List Cell) (s : Cell) (ws : List Cell) : Prop := ∃ F, FarOf (· ∈ rest b s) ((nearL b s).headD (0, 0)) F ∧ ws.Nodup ∧ ws.Pairwise (fun x y => le x y = true) ∧ ∀ x, x ∈ ws ↔ x ∈ witL F (nearL b s)
theorem WitOf.one {b : List Cell} {s : Cell} {w1 w2 : List Cell} (h1 : WitOf b s w1) (h2 : WitOf b s w2) : w1 = w2 := by
  obtain ⟨F, f1, n1, p1, m1⟩ := h1
  obtain ⟨G, g1, n2, p2, m2⟩ := h2
  obtain rfl := f1.one g1
  exact List.Perm.eq_of_pairwise (le := fun x y => le x y = true) (fun x y _ _ => le_anti) p1 p2 (perm_nodup n1 n2 fun x => (m1 x).trans (m2 x).symm)
theorem srt_wit {b : List Cell} {s : Cell} {F : Cell → Option Int} {ks : List Cell} (hF : FarOf (· ∈ rest b s) ((nearL b s).headD (0, 0)) F) (hn : ks.Nodup) (hm : ∀ x, x ∈ ks ↔ x ∈ witL F (nearL b s)) : WitOf b s (srt ks) :=
  ⟨F, hF, (srt_perm _).nodup_iff.mpr hn, srt_pw _, fun x => srt_mem.trans (hm x)⟩
theorem near_ne {b : List Cell} {s : Cell} (h : ∃ z, z ∈ nbs s ∧ z ∈ b) : ∃ r, nearL b s = (nearL b s).headD (0, 0) :: r := by
  obtain ⟨z, h1, h2⟩ := h
  have hz := mem_nearL.mpr ⟨h1, h2⟩
  cases e : nearL b s with
  | nil =>
    rw [e] at hz
    cases hz
  | cons a r => exact ⟨r, rfl⟩
theorem WitOf.wit {b : List Cell} {s : Cell} {ws : List Cell} (h : WitOf b s ws) (hz : ∃ z, z ∈ nbs s ∧ z ∈ b) : IsWit b s ws := by
  obtain ⟨F, f, n, _, m⟩ := h
  have hS : ∀ x, x ∈ nearL b s → x ∈ rest b s := fun x hx => (rest_near (mem_nearL.mp hx).1).mpr (mem_nearL.mp hx).2
  obtain ⟨r, er⟩ := near_ne hz
  have hroot : (nearL b s).headD (0, 0) ∈ nearL b s := by
    rw [er]
    exact List.mem_cons_self
  have hin : ∀ c, c ∈ nearL b s → ∀ y, y ∈ wayv F c → y ∈ ws := fun c hc y hy => (m y).mpr (List.mem_flatMap.mpr ⟨c, hc, hy⟩)
  refine ⟨fun x hx => ?_, hang_of (hin _ hroot _ (f.pvW (hS _ hroot)).1) fun x hx => ?_, fun z h1 h2 => ?_, n⟩
  · obtain ⟨c, hc, hxc⟩ := List.mem_flatMap.mp ((m x).mp hx)
    exact (f.pvW (hS c hc)).2.1 x hxc
  · obtain ⟨c, hc, hxc⟩ := List.mem_flatMap.mp ((m x).mp hx)
    exact (((f.pvW (hS c hc)).2.2.2 x hxc).wide fun z hz => hin c hc z hz).sy
  · exact hin z (mem_nearL.mpr ⟨h1, h2⟩) z (f.pvW (hS z (mem_nearL.mpr ⟨h1, h2⟩))).1
/-! BFS tells it -/
structure BInvL (S : Cell → Prop) (root : Cell) (lap : Nat) (ln : List Cell) (fr : List (Cell × Int)) : Prop extends BInv S root lap ln fr where
  lip : ∀ x v y u, dget fr x = some v → y ∈ nbs x → dget fr y = some u → u ≤ v + 1
theorem BInvL.start {S : Cell → Prop} {root : Cell} (h : S root) : BInvL S root 0 [root] (dput [] root 0) where
  toBInv := BInv.start h
  lip x v y u hx hy hu := by
    rw [dget_put, dget_nil] at hx hu
    split at hx
    · split at hu
      · cases hx
        cases hu
        omega
      · cases hu
    · cases hx
theorem BInvL.next {S : Cell → Prop} {root : Cell} {lap : Nat} {ln lt : List Cell} {fr0 fr : List (Cell × Int)} (B : BInvL S root lap ln fr0) (I : LInv S fr0 lap ln (ln.flatMap nbs) fr lt) : BInvL S root (lap + 1) lt fr where
  toBInv := B.toBInv.next I
  lip x v y u hx hy hu := by
    rcases I.new x v hx with h | ⟨rfl, h⟩
    · rcases I.new y u hu with g | ⟨rfl, g⟩
      · exact B.lip x v y u h hy g
      · obtain ⟨_, b, c, _⟩ := I.lts y g
        obtain ⟨_, _, h3, _⟩ := B.key x v h
        by_cases e : v < (lap : Int)
        · have := B.full x v h e y hy c
          rw [b] at this
          cases this
        · omega
    · have := (B.toBInv.next I).key y u hu
      omega
theorem BInvL.far {S : Cell → Prop} {root : Cell} {lap : Nat} {ln : List Cell} {fr : List (Cell × Int)} (B : BInvL S root lap ln fr) (hall : ∀ x, S x → ∃ v, dget fr x = some v) : FarOf S root (fun x => dget fr x) where
  key x v h := by
    obtain ⟨a, b, _, d, _⟩ := B.key x v h
    exact ⟨a, b, d⟩
  par := B.par
  lip := B.lip
  all := hall
/-! one step of the way, seen from a set that grows -/
theorem pth_step {F : Cell → Option Int} {k : Nat} {here : Cell} {A A' W : Cell → Prop} {cell : Cell} (h : ∀ x, (A x ∨ x ∈ pth F (k + 1) here) ↔ (W x ∨ x ∈ wayv F cell)) (ha : ∀ x, A' x ↔ x = here ∨ A x) : ∀ x, (A' x ∨ x ∈ pth F k (nxt F here)) ↔ (W x ∨ x ∈ wayv F cell) := fun x => by
  rw [← h x, ha]
  show _ ↔ A x ∨ x ∈ here :: pth F k (nxt F here)
  rw [List.mem_cons]
  constructor
  · rintro ((h | h) | h)
    · exact .inr (.inl h)
    · exact .inl h
    · exact .inr (.inr h)
  · rintro (h | h | h)
    · exact .inl (.inr h)
    · exact .inl (.inl h)
    · exact .inr h
theorem pth_end {F : Cell → Option Int} {here : Cell} {A A' W : Cell → Prop} {cell : Cell} (h : ∀ x, (A x ∨ x ∈ pth F 0 here) ↔ (W x ∨ x ∈ wayv F cell)) (ha : ∀ x, A' x ↔ x = here ∨ A x) : ∀ x, A' x ↔ (W x ∨ x ∈ wayv F cell) := fun x => by
  rw [← h x, ha]
  show _ ↔ A x ∨ x ∈ [here]
  rw [List.mem_singleton]
  constructor
  · rintro (h | h)
    · exact .inr h
    · exact .inl h
  · rintro (h | h)
    · exact .inr h
    · exact .inl h
theorem witL_snoc {F : Cell → Option Int} {near : List Cell} {i : Nat} {c : Cell} (h : near[i]? = some c) (x : Cell) : x ∈ witL F (near.take (i + 1)) ↔ x ∈ witL F (near.take i) ∨ x ∈ wayv F c := by
  unfold witL
  rw [take_snoc h, List.flatMap_append, List.mem_append, List.flatMap_singleton]
end TB
set_option Elab.async false
set_option linter.all false
set_option maxRecDepth 100000
set_option maxHeartbeats 4000000
/-! D16: steps as objects. -/
namespace TB
open PySem PySem.Spec PyProof.Rows L2
/-- the object at a stands for the paper, C its class -/
def StepAt (C : Addr) (H : Hp) (v : V) (p : Paper) : Prop := ∃ a dx u1 u2 u3 u4, v = .ref a ∧ H a = some (.ins C dx [("start", u1), ("end", u2), ("support", u3), ("witness", u4)]) ∧ Enc.r H u1 p.s ∧ Enc.r H u2 p.e ∧ Enc.r H u3 p.sup ∧ Enc.r H u4 p.wit
theorem StepAt.up {C : Addr} {H H' : Hp} {v : V} {p : Paper} (e : Ex H H') (h : StepAt C H v p) : StepAt C H' v p := by
  obtain ⟨a, dx, u1, u2, u3, u4, ev, h0, h1, h2, h3, h4⟩ := h
  exact ⟨a, dx, u1, u2, u3, u4, ev, e _ _ h0, en_up e h1, en_up e h2, en_up e h3, en_up e h4⟩
def st (C : Addr) (p : Paper) : Pd := ⟨fun H v => StepAt C H v p, fun e h => h.up e⟩
structure ClsT (K : PySem.W.Frag) (C : Addr) : Prop where
  cl : Cls K C
  n1 : NoAttr K C "start"
  n2 : NoAttr K C "end"
  n3 : NoAttr K C "support"
  n4 : NoAttr K C "witness"
/-- what holds of items at an address list, R not touched by changes of lists -/
structure Rl (α : Type) where
  r : Hp → V → α → Prop
  up : ∀ {H H' : Hp} {v : V} {x : α}, Ex H H' → r H v x → r H' v x
  mv : ∀ {H H' : Hp} {S : List Addr} {v : V} {x : α}, (∀ a, a ∈ S → ∃ us, H a = some (.lst us)) → Mv S H H' → r H v x → r H' v x
theorem Bt.mv {D : Addr} {H H' : Hp} (b : Bt D H H') : Mv [D] H H' := Mv.same.but b (.inl List.mem_cons_self)
theorem Rl.bt {α : Type} (R : Rl α) {H H' : Hp} {D : Addr} {us : List V} {v : V} {x : α} (h : H D = some (.lst us)) (b : Bt D H H') (hr : R.r H v x) : R.r H' v x := R.mv (fun a ha => by rw [List.mem_singleton.mp ha]; exact ⟨us, h⟩) b.mv hr
def stR (C : Addr) : Rl Paper := ⟨StepAt C, fun e h => h.up e, fun hD m h => by
  obtain ⟨a, dx, u1, u2, u3, u4, ev, h0, h1, h2, h3, h4⟩ := h
  refine ⟨a, dx, u1, u2, u3, u4, ev, m.ch _ _ (fun z => ?_) h0, Enc.mono m.tu h1, Enc.mono m.tu h2, Enc.mono m.tu h3, Enc.mono m.tu h4⟩
  obtain ⟨us, q⟩ := hD a z
  rw [h0] at q
  cases q⟩
def dcR : Rl (List (Cell × Bool)) := ⟨fun H v kvs => ∃ d, v = .ref d ∧ Dc H d kvs, fun e ⟨d, h1, h2⟩ => ⟨d, h1, h2.up e⟩, fun hD m ⟨d, h1, h2⟩ => ⟨d, h1, h2.mv (fun z => by
  obtain ⟨us, q⟩ := hD d z
  obtain ⟨ws, h3, _⟩ := h2
  rw [h3] at q
  cases q) m⟩⟩
def enR (α : Type) [DecidableEq α] [Enc α] : Rl α := ⟨Enc.r, fun e h => en_up e h, fun _ m h => Enc.mono m.tu h⟩
def LsR {α : Type} (R : Rl α) (H : Hp) (p : Addr) (xs : List α) : Prop := ∃ us, H p = some (.lst us) ∧ Paired (R.r H) us xs
theorem LsR.up {α : Type} {R : Rl α} {H H' : Hp} {p : Addr} {xs : List α} (h : LsR R H p xs) (e : Ex H H') : LsR R H' p xs := by
  obtain ⟨us, h1, h2⟩ := h
  exact ⟨us, e _ _ h1, paired_map h2 fun _ _ z => R.up e z⟩
theorem LsR.but {α : Type} {R : Rl α} {H H' : Hp} {p q : Addr} {us : List V} {xs : List α} (h : LsR R H p xs) (hq : H q = some (.lst us)) (b : Bt q H H') (n : p ≠ q) : LsR R H' p xs := by
  obtain ⟨ws, h1, h2⟩ := h
  exact ⟨ws, by rw [b.ne p n]; exact h1, paired_map h2 fun _ _ z => R.bt hq b z⟩
theorem ls_lsR {α : Type} [DecidableEq α] [Enc α] {H : Hp} {p : Addr} {xs : List α} (h : Ls H p xs) : LsR (enR α) H p xs := h
def lr {α : Type} (R : Rl α) (xs : List α) : Pd := ⟨fun H v => ∃ p, v = .ref p ∧ LsR R H p xs, fun e ⟨p, h1, h2⟩ => ⟨p, h1, h2.up e⟩⟩
def rp {α : Type} (R : Rl α) (x : α) : Pd := ⟨fun H v => R.r H v x, fun e h => R.up e h⟩
section
variable {K : PySem.W.Frag} {s : TSt} {H : Hp} {ta tb tl te td tk tv : TE} {tt : TT} {D : Ends} {u tu : TS} {α β : Type} {R : Rl α} {R2 : Rl β} {C : Addr} {p : Paper}
theorem ev_ixR {xs : List α} {i : Int} {x : α} (ha : EvP ta s H (lr R xs)) (hb : EvP tb s H (en i)) (h : atI xs i = some x) : EvP (tOp (rIxL K) ta tb) s H (rp R x) := fun H1 e Q q =>
  ha H1 e _ fun v H2 e2 hv => hb H2 (e.tr e2) _ fun w H3 e3 hw => by
    obtain ⟨p, rfl, us, h1, h2⟩ := (lr R xs).up e3 hv
    unfold atI at h
    cases hj : ixN xs.length i with
    | none =>
      rw [hj] at h
      cases h
    | some j =>
      rw [hj] at h
      obtain ⟨u, g1, g2⟩ := paired_get h2 h
      refine ⟨p, us, i, u, rfl, hw, .inl (.inl h1), ?_, q _ H3 (e2.tr e3) g2⟩
      unfold atI
      rw [h2.length, hj]
      exact g1
theorem ev_lenR {xs : List α} {r : List V → Hp → VK → Prop} (hr : r = fun xs H Q => ∃ p ys, xs = [V.ref p] ∧ (SqL K H p ys ∨ SqT K H p ys) ∧ Q (.int ys.length) H) (ha : EvP ta s H (lr R xs)) : EvP (tCB r (tCons ta tNil)) s H (en (xs.length : Int)) := fun H1 e Q q =>
  ha H1 e _ fun v H2 e2 hv => by
    obtain ⟨p, rfl, us, h1, h2⟩ := hv
    subst hr
    exact ⟨p, us, rfl, .inl (.inl (.inl h1)), q _ H2 e2 (by rw [h2.length]; exact rfl)⟩
/-- [e for x in xs], what e makes told by R2 -/
theorem ew_lcR {i : Nat} {vs : List Nat} {xs : List α} {f : α → β} (h : EvP tl s H (lr R xs)) (hl : xs.length ≤ 1000000)
    (hb : ∀ x u H', x ∈ xs → Ex H H' → R.r H' u x → EvP te ((wipe s vs).set i (some u)) H' (rp R2 (f x)))
    (hw : ∀ u, wipe ((wipe s vs).set i (some u)) vs = wipe s vs := by intro u; rfl) : EvW (tLc (iList K tl) (gName i) tYes te vs) s H (lr R2 (xs.map f)) := fun H1 e Q q =>
  h H1 e _ fun v H2 e2 ⟨a, ev, us, ha, hp⟩ => by
    subst ev
    refine ⟨a, rfl, ⟨us, .inl (.inl ha)⟩, fun D hD => lc_list (K := K) (a := a) (xs := us) (fun i H' => Ex H2 H' ∧ LsR R2 H' D ((xs.take i).map f)) ⟨Ex.new hD, [], upd_same, .nil⟩ (fun i H' _ I => .inl (.inl (I.1 _ _ ha))) (fun i u H' hu I => ?_) fun H' I => ?_⟩
    · obtain ⟨x, hx, hr⟩ := paired_getL hp hu
      refine ⟨hw u, ?_⟩
      show te _ H' _
      refine hb x u H' (List.mem_of_getElem? hx) ((e.tr e2).tr I.1) (R.up I.1 hr) H' Ex.same _ fun y H4 e4 hy => ?_
      obtain ⟨acc, g1, g2⟩ := I.2.up e4
      have b : Bt D H4 (upd H4 D (.lst (acc ++ [y]))) := ⟨Tu.mutL g1, fun q hq => upd_ne hq⟩
      refine ⟨acc, g1, by
        rw [g2.length, List.length_map]
        have := List.length_take_le' i xs
        exact sz_lt (by omega), (I.1.tr e4).mut hD, acc ++ [y], upd_same, ?_⟩
      rw [take_snoc hx, List.map_append]
      exact paired_app (paired_map g2 fun _ _ w => R2.bt g1 b w) (.cons (R2.bt g1 b hy) .nil)
    · rw [hp.length, List.take_length] at I
      exact q D H' (e2.back hD) (by
        obtain ⟨ws, g, _⟩ := I.2
        rw [g]
        exact fun z => by cases z) (e2.tr I.1) ⟨D, rfl, I.2⟩
/-- o.f -/
theorem ev_fS (T : ClsT K C) (ha : EvP ta s H (st C p)) : EvP (tFld K ta "start") s H (en p.s) := fun H1 e Q q =>
  ha H1 e _ fun v H2 e2 ⟨a, dx, u1, u2, u3, u4, ev, h0, h1, h2, h3, h4⟩ => ⟨a, C, dx, _, u1, ev, h0, T.cl, T.n1, rfl, q _ H2 e2 h1⟩
theorem ev_fE (T : ClsT K C) (ha : EvP ta s H (st C p)) : EvP (tFld K ta "end") s H (en p.e) := fun H1 e Q q =>
  ha H1 e _ fun v H2 e2 ⟨a, dx, u1, u2, u3, u4, ev, h0, h1, h2, h3, h4⟩ => ⟨a, C, dx, _, u2, ev, h0, T.cl, T.n2, rfl, q _ H2 e2 h2⟩
theorem ev_fU (T : ClsT K C) (ha : EvP ta s H (st C p)) : EvP (tFld K ta "support") s H (en p.sup) := fun H1 e Q q =>
  ha H1 e _ fun v H2 e2 ⟨a, dx, u1, u2, u3, u4, ev, h0, h1, h2, h3, h4⟩ => ⟨a, C, dx, _, u3, ev, h0, T.cl, T.n3, rfl, q _ H2 e2 h3⟩
theorem ev_fW (T : ClsT K C) (ha : EvP ta s H (st C p)) : EvP (tFld K ta "witness") s H (en p.wit) := fun H1 e Q q =>
  ha H1 e _ fun v H2 e2 ⟨a, dx, u1, u2, u3, u4, ev, h0, h1, h2, h3, h4⟩ => ⟨a, C, dx, _, u4, ev, h0, T.cl, T.n4, rfl, q _ H2 e2 h4⟩
theorem raw_yes {X Y : Hp → Prop} (h : X H) : tYes s H fun b H3 => if b = true then X H3 else Y H3 := by
  show if true = true then X H else Y H
  rw [if_pos rfl]
  exact h
/-- {x for x in t}, t a tuple of cells -/
theorem ev_scT {P : Program} {w : World} {i : Nat} {vs : List Nat} {xs : List Cell} (h : EvP tl s H (en xs)) (hl : xs.length < 60) (hte : ∀ (u : V) H', EvP te ((wipe s vs).set i (some u)) H' (va u))
    (hw : ∀ u, wipe ((wipe s vs).set i (some u)) vs = wipe s vs := by intro u; rfl) : EvP (tCc (fun D => SetTO P w D []) (iTup K tl) (gName i) tYes (tbSet P w te) vs) s H (se P w xs) := fun H1 e Q q =>
  h H1 e _ fun v H2 e2 ⟨a, us, ev, ha, hp⟩ => by
    subst ev
    refine ⟨a, rfl, ⟨us, .inl (.inl ha)⟩, fun D hD => ?_⟩
    refine ⟨fun i m H' => m = us.length - i ∧ i ≤ us.length ∧ Ex H2 H' ∧ ∃ L cs, H' D = some (SetTO P w D L) ∧ SetCs H' L cs ∧ cs.length ≤ i ∧ ∀ c, c ∈ cs ↔ c ∈ xs.take i, ⟨us.length, by simp, Nat.zero_le _, Ex.new hD, [], [], upd_same, .nil, Nat.le_refl _, fun c => by simp⟩, fun i m H' ⟨em, hi, eX, L, cs, hDs, hL, hcl, hcs⟩ => ?_⟩
    subst em
    by_cases hlt : i < us.length
    · refine .inr ⟨⟨us, us[i], .inl (.inl (eX _ _ ha)), by simp [hlt]⟩, fun H' => Ex H2 H' ∧ ∃ L cs, H' D = some (SetTO P w D L) ∧ SetCs H' L cs ∧ cs.length ≤ i + 1 ∧ ∀ c, c ∈ cs ↔ c ∈ xs.take (i + 1), fun H' N => ⟨us.length - (i + 1), by omega, rfl, hlt, N⟩, fun x H' y => ?_⟩
      obtain ⟨rfl, y⟩ := y
      have hx : us[i]? = some x := y us (.inl (.inl (eX _ _ ha)))
      obtain ⟨c, hc, hr⟩ := paired_getL hp hx
      obtain ⟨b, w1, w2, e3, hb, g1, g2⟩ := en_up eX hr
      obtain rfl : w1 = .int c.1 := g1
      obtain rfl : w2 = .int c.2 := g2
      subst e3
      refine ⟨hw _, ?_⟩
      refine raw_yes ?_
      refine hte (.ref b) _ _ Ex.same _ fun v H4 e4 hv => ?_
      obtain rfl : v = .ref b := hv
      have hL4 : SetCs H4 L cs := paired_map hL fun _ _ z => ⟨e4 _ _ z.1, z.2⟩
      refine ⟨b, [c.1, c.2], L, rfl, e4 _ _ hb, e4 _ _ hDs, fun p hpL => ?_, by rw [setCs_len hL]; have := hp.length; omega, fun L' c1 c2 => ?_⟩
      · obtain ⟨c', _, z1, z2⟩ := setCs_mem hL4 hpL
        rw [z2]
        exact z1
      · have nD : ∀ {q : Addr} {xs : List V}, H4 q = some (.tup xs) → q ≠ D := fun z w => by
          rw [w, e4 _ _ hDs] at z
          cases z
        have keep : ∀ {L cs}, SetCs H4 L cs → SetCs (upd H4 D (SetTO P w D L')) L cs := fun h => paired_map h fun _ _ z => ⟨by rw [upd_ne (nD z.1)]; exact z.1, z.2⟩
        refine ⟨(eX.tr e4).mut hD, ?_⟩
        by_cases hin : [c.1, c.2] ∈ L.map (·.2)
        · have eL := c1 hin
          refine ⟨L', cs, upd_same, by rw [eL] at keep ⊢; exact keep hL4, by omega, fun d => ?_⟩
          rw [take_snoc hc, List.mem_append, List.mem_singleton, hcs]
          refine ⟨.inl, fun z => z.elim id fun z => ?_⟩
          rw [z, ← hcs]
          rw [setCs_snd hL] at hin
          obtain ⟨c', z1, z2⟩ := List.mem_map.mp hin
          injection z2 with z3 z4
          injection z4 with z4 _
          rw [show c = c' from Prod.ext z3.symm z4.symm]
          exact z1
        · have pL := c2 hin
          have hcons : SetCs H4 ((b, [c.1, c.2]) :: L) (c :: cs) := .cons ⟨e4 _ _ hb, rfl⟩ hL4
          obtain ⟨cs', pc, hcs'⟩ := paired_perm hcons pL
          refine ⟨L', cs', upd_same, keep hcs', by rw [pc.length_eq]; exact Nat.succ_le_succ hcl, fun d => ?_⟩
          rw [pc.mem_iff, List.mem_cons, take_snoc hc, List.mem_append, List.mem_singleton, hcs]
          exact Or.comm
    · have hi' : i = us.length := by omega
      subst hi'
      rw [hp.length, List.take_length] at hcs
      exact .inl ⟨⟨us, .inl (.inl (eX _ _ ha)), Nat.le_refl _⟩, q _ H' (e2.tr eX) ⟨D, L, cs, rfl, hDs, hL, hcs⟩⟩
/-- {c: v for c in t}, t a tuple of cells -/
theorem ev_dcT {i : Nat} {vs : List Nat} {xs : List Cell} (h : EvP tl s H (en xs)) (hl : xs.length ≤ 1000) (hk : ∀ (u : V) H', EvP tk ((wipe s vs).set i (some u)) H' (va u)) (hv : ∀ (u : V) H', EvP tv ((wipe s vs).set i (some u)) H' (va (.bl true)))
    (hw : ∀ u, wipe ((wipe s vs).set i (some u)) vs = wipe s vs := by intro u; rfl) : EvP (tCc (fun _ => .dT []) (iTup K tl) (gName i) tYes (tbDict tk tv) vs) s H (ds (dall xs)) := fun H1 e Q q =>
  h H1 e _ fun v H2 e2 ⟨a, us, ev, ha, hp⟩ => by
    subst ev
    refine ⟨a, rfl, ⟨us, .inl (.inl ha)⟩, fun D hD => ?_⟩
    refine ⟨fun i m H' => m = us.length - i ∧ i ≤ us.length ∧ Ex H2 H' ∧ Dc (β := Bool) H' D (dall (xs.take i)), ⟨us.length, by simp, Nat.zero_le _, Ex.new hD, [], upd_same, .nil⟩, fun i m H' ⟨em, hi, eX, hDs⟩ => ?_⟩
    subst em
    by_cases hlt : i < us.length
    · refine .inr ⟨⟨us, us[i], .inl (.inl (eX _ _ ha)), by simp [hlt]⟩, fun H' => Ex H2 H' ∧ Dc (β := Bool) H' D (dall (xs.take (i + 1))), fun H' N => ⟨us.length - (i + 1), by omega, rfl, hlt, N⟩, fun x H' y => ?_⟩
      obtain ⟨rfl, y⟩ := y
      have hx : us[i]? = some x := y us (.inl (.inl (eX _ _ ha)))
      obtain ⟨c, hc, hr⟩ := paired_getL hp hx
      refine ⟨hw _, ?_⟩
      refine raw_yes ?_
      refine hk x _ _ Ex.same _ fun v H4 e4 hv1 => hv x H4 H4 Ex.same _ fun z H5 e5 hz => ?_
      obtain rfl : v = x := hv1
      obtain rfl : z = .bl true := hz
      obtain ⟨b, eb, hb⟩ := cell_at (en_up ((eX.tr e4).tr e5) hr)
      subst eb
      obtain ⟨ws, h1, h2⟩ := hDs.up (e4.tr e5)
      have t := Tu.mutT (o := .dT (putK ws (ck c) (.bl true))) h1
      refine ⟨b, _, ws, rfl, hb, h1, by
        rw [h2.length]
        have z1 := dall_len (xs.take i)
        have z2 := List.length_take_le' i xs
        exact sz_lt (by omega), ((eX.tr e4).tr e5).mut hD, ?_⟩
      rw [take_snoc hc, dall_snoc]
      exact ⟨_, upd_same, paired_map (put_of h2 c rfl) fun _ _ z => ⟨z.1, Enc.mono t z.2⟩⟩
    · have hi' : i = us.length := by omega
      subst hi'
      rw [hp.length, List.take_length] at hDs
      exact .inl ⟨⟨us, .inl (.inl (eX _ _ ha)), Nat.le_refl _⟩, q _ H' (e2.tr eX) ⟨D, rfl, hDs⟩⟩
end
section
variable {P : Program} {w : World} {K : PySem.W.Frag} {mg : Str → Option Value} {base : Heap} {C : Addr}
abbrev s_Step___init : Stmt := inClass (topS 27) 0
abbrev n_Step___init : List Str := ["self", "start", "end", "support", "witness"]
theorem sc_Step___init : FnScope n_Step___init ["self", "start", "end", "support", "witness"] (defScope s_Step___init) := ⟨rfl, rfl, rfl, by decide +kernel, rfl, by decide +kernel, by decide +kernel⟩
def spInit (C : Addr) : Sp := fun vs H Q _ => ∃ a dx u1 u2 u3 u4, vs = [.ref a, u1, u2, u3, u4] ∧ H a = some (.ins C dx []) ∧ ∀ H', Bt a H H' → H' a = some (.ins C dx [("start", u1), ("end", u2), ("support", u3), ("witness", u4)]) → Q .non H'
theorem ok_init {f : Addr} {fd : FuncData} (F : Fun K "__init__" "Step.__init__" s_Step___init f fd) (T : ClsT K C) : FnOk P w K mg base CX0 1 f fd ["self", "start", "end", "support", "witness"] (spInit C) :=
  F.ok sc_Step___init (fun vs H Q E ⟨a, dx, u1, u2, u3, u4, e, _⟩ => by subst e; rfl) fun cdv A outer s H vs Q E hr h => by
    obtain ⟨a, dx, u1, u2, u3, u4, rfl, h0, q⟩ := h
    refine ⟨_, (pss_cons (ps_fld (pv 0) (pv 1) rfl)
      (pss_cons (ps_fld (pv 0) (pv 2) rfl)
      (pss_cons (ps_fld (pv 0) (pv 3) rfl)
      (pss_one (ps_fld (pv 0) (pv 4) rfl))))), ?_⟩
    refine ⟨u1, rfl, .ref a, rfl, a, C, dx, _, rfl, h0, T.cl, T.n1, (by decide), ?_⟩
    refine ⟨u2, rfl, .ref a, rfl, a, C, dx, _, rfl, upd_same, T.cl, T.n2, (Nat.lt_of_le_of_lt (Nat.le_of_ble_eq_true rfl : _ ≤ 1) (by decide)), ?_⟩
    refine ⟨u3, rfl, .ref a, rfl, a, C, dx, _, rfl, upd_same, T.cl, T.n3, (Nat.lt_of_le_of_lt (Nat.le_of_ble_eq_true rfl : _ ≤ 2) (by decide)), ?_⟩
    refine ⟨u4, rfl, .ref a, rfl, a, C, dx, _, rfl, upd_same, T.cl, T.n4, (Nat.lt_of_le_of_lt (Nat.le_of_ble_eq_true rfl : _ ≤ 3) (by decide)), ?_⟩
    refine q _ ⟨fun b xs hb => ?_, fun b hb => ?_⟩ upd_same
    · have : b ≠ a := fun z => by
        rw [z, h0] at hb
        cases hb
      rw [upd_ne this, upd_ne this, upd_ne this, upd_ne this]
      exact hb
    · rw [upd_ne hb, upd_ne hb, upd_ne hb, upd_ne hb]
def spReadsOf (C : Addr) : Sp := S1 fun P1 Pz => ∃ p : Paper, P1 = st C p ∧ smallP p ∧ Pz = en (sset (cellsOf p))
def spChanges (C : Addr) : Sp := S2 fun P1 P2 Pz => ∃ (p : Paper) (m : List (Cell × Bool)), P1 = st C p ∧ P2 = ds m ∧ Pz = en ((dget m p.s).isSome || (dget m p.e).isSome)
end
end TB
set_option Elab.async false
set_option linter.all false
set_option maxRecDepth 100000
set_option maxHeartbeats 4000000
/-! D17: steps made, ties_of, waits_of. -/
namespace TB
open PySem PySem.Spec PyProof.Rows L2
/-- the class can be called -/
structure StepM (P : Program) (w : World) (K : PySem.W.Frag) (mg : Str → Option Value) (base : Heap) (C : Addr) : Prop where
  ex : ∃ f fd, Mk K C f ∧ FnOk P w K mg base CX0 1 f fd ["self", "start", "end", "support", "witness"] (spInit C) ∧ mg "Step" = some (.ref C) ∧ Binds K fd ["self", "start", "end", "support", "witness"] []
section
variable {X : Cx} {C : Addr} {e : Expr} {es : List Expr} {t : TA} {p pos : Pos}
theorem pe_mk (M : StepM X.prog X.w X.K X.mg X.base C) (hr : Room 2 X.A) (ha : PA X (e :: es) t) (hg : Gl X "Step" := by rfl)
    (hdb : (("Step" : Str) == ("__debug__" : Str)) = false := by decide) (he : starEach (e :: es) X.env = (false, eval e X.env) :: starEach es X.env := by rfl) (hpl : (backTo pos (starEach es X.env)).any (·.1) = false := by rfl) :
    PE X (.Call (.Name "Step" p) (e :: es) [] pos) (tMake C (spInit C) [] E0 t) := by
  obtain ⟨f, fd, M0, F, g, b⟩ := M.ex
  exact pe_make M0 F hr hg g b .nil pass0 ha hdb he hpl
end
theorem al4 {H : Hp} {vs : List V} {P1 P2 P3 P4 : Pd} (h : AllP H vs [P1, P2, P3, P4]) : ∃ v1 v2 v3 v4, vs = [v1, v2, v3, v4] ∧ P1.p H v1 ∧ P2.p H v2 ∧ P3.p H v3 ∧ P4.p H v4 := by
  cases h with
  | cons a r =>
    obtain ⟨v, w, x, rfl, b, c, d⟩ := al3 r
    exact ⟨_, _, _, _, rfl, a, b, c, d⟩
section
variable {K : PySem.W.Frag} {s : TSt} {H : Hp} {ta tb tl te : TE} {tt : TT} {tr : TA} {D : Ends} {u tu : TS} {α β : Type} {R : Rl α} {R2 : Rl β} {C : Addr} {p : Paper}
theorem ev_mk (h : EvA tr s H [en p.s, en p.e, en p.sup, en p.wit]) : EvP (tMake C (spInit C) [] E0 tr) s H (st C p) := fun H1 e Q q =>
  h H1 e _ fun vs H2 e2 hv => by
    obtain ⟨v1, v2, v3, v4, rfl, h1, h2, h3, h4⟩ := al4 hv
    intro x dx hx hdx hne
    have eN : Ex H2 (upd (upd H2 dx (.own x)) x (.ins C dx [])) := (Ex.new hdx).tr (Ex.new (by rw [upd_ne hne.symm]; exact hx))
    refine ⟨x, dx, v1, v2, v3, v4, rfl, upd_same, fun H' b h' => ⟨rfl, q _ H' (e2.tr ((eN.but hx b))) ?_⟩⟩
    have tu := eN.tu.tr b.tu
    exact ⟨x, dx, v1, v2, v3, v4, rfl, h', Enc.mono tu h1, Enc.mono tu h2, Enc.mono tu h3, Enc.mono tu h4⟩
/-- for i, x in enumerate(xs) -/
theorem q_forE {xs : List α} {i j : Nat} {a : Addr} (S : List Addr) (hl : LsR R H a xs) (h : EvP tl s H (va (.ref a))) (hn : a ∉ S) (hS : ∀ b, b ∈ S → ∃ us, H b = some (.lst us)) (k : ∀ H1, Ex H H1 → ∃ Pv : Nat → TSt → Hp → Prop, Pv 0 s H1 ∧ (∀ n s' H', Pv n s' H' → Mv S H1 H') ∧
      (∀ n x v s' H' H'', xs[n]? = some x → R.r H'' v x → Ex H' H'' → Pv n s' H' → tu (turnEnds { D with nx := u D } Pv n) ((s'.set i (some (.int (n : Int)))).set j (some v)) H'') ∧ (∀ s' H', Pv xs.length s' H' → u D s' H')) : tSeq (tFor (iEnum K (tCons tl tNil)) (gTup K 2 (gCons (gName i) (gCons (gName j) gNil))) tu) u D s H :=
  h H Ex.same _ fun w H1 e hw => by
    obtain rfl : w = .ref a := hw
    obtain ⟨us, ha, hp⟩ := hl.up e
    obtain ⟨Pv, h0, ht, hs, hd⟩ := k H1 e
    have hS1 : ∀ b, b ∈ S → ∃ us, H1 b = some (.lst us) := fun b hb => by
      obtain ⟨ws, q⟩ := hS b hb
      exact ⟨ws, e _ _ q⟩
    refine ⟨a, us, rfl, .inl (.inl ha), for_it (walk_enum (K := K) (a := a) (xs := us)) Pv h0 (fun n s' H' _ P => .inl (.inl ((ht n s' H' P).ch _ _ hn ha))) (fun n x s' H' H'' hlt P y => ?_) fun s' H' P => hd s' H' (by rw [← hp.length]; exact P)⟩
    obtain ⟨T, z1, z2, rfl, nT, rfl, f1, f2⟩ := y
    obtain rfl : z1 = .int (n : Int) := (Option.some.inj f1).symm
    obtain ⟨x, hx, hr⟩ := paired_getL hp f2
    refine ⟨T, [.int (n : Int), z2], rfl, .inl (.inl upd_same), rfl, _, [z2], rfl, _, [], rfl, rfl, ?_⟩
    exact hs n x z2 s' H' _ hx (R.up (Ex.new nT) (R.mv hS1 (ht n s' H' P) hr)) (Ex.new nT) P
end
/-- what ties_of finds before it sorts -/
def foundOf (ps : List Paper) : Nat → List (Int × Int)
  | 0 => []
  | j + 1 => foundOf ps j ++ ((rng 0 j).filter fun i => match ps[i.toNat]?, ps[j]? with
    | some a, some b => tied a b
    | _, _ => false).map fun i => (i, (j : Int))
def tiesP (ps : List Paper) : List (Int × Int) := srt (foundOf ps ps.length)
theorem foundOf_len (ps : List Paper) : ∀ n, (foundOf ps n).length ≤ n * n
  | 0 => Nat.le_refl _
  | n + 1 => by
    have h1 := foundOf_len ps n
    have h2 := List.length_filter_le (fun i : Int => match ps[i.toNat]?, ps[n]? with
      | some a, some b => tied a b
      | _, _ => false) (rng 0 n)
    rw [rng_len] at h2
    show (foundOf ps n ++ List.map _ _).length ≤ _
    rw [List.length_append, List.length_map]
    have : (n + 1) * (n + 1) = n * n + 2 * n + 1 := by
      rw [Nat.mul_add, Nat.add_mul]
      omega
    omega
theorem mem_found {ps : List Paper} {i j : Nat} {a b : Paper} (hi : ps[i]? = some a) (hj : ps[j]? = some b) : ∀ n, ((i : Int), (j : Int)) ∈ foundOf ps n ↔ j < n ∧ i < j ∧ tied a b = true
  | 0 => by simp [foundOf]
  | n + 1 => by
    show _ ∈ foundOf ps n ++ List.map _ _ ↔ _
    rw [List.mem_append, mem_found hi hj n, List.mem_map]
    constructor
    · rintro (⟨h1, h2, h3⟩ | ⟨x, hx, e⟩)
      · exact ⟨by omega, h2, h3⟩
      · injection e with e1 e2
        subst e1
        have e3 : n = j := by omega
        subst e3
        obtain ⟨h1, h2⟩ := List.mem_filter.mp hx
        obtain ⟨h3, h4⟩ := mem_rng.mp h1
        rw [Int.toNat_natCast, hi, hj] at h2
        exact ⟨by omega, by omega, h2⟩
    · rintro ⟨h1, h2, h3⟩
      by_cases e : j < n
      · exact .inl ⟨e, h2, h3⟩
      · have e3 : n = j := by omega
        subst e3
        refine .inr ⟨(i : Int), List.mem_filter.mpr ⟨mem_rng.mpr ⟨by omega, by omega⟩, ?_⟩, rfl⟩
        rw [Int.toNat_natCast, hi, hj]
        exact h3
theorem found_rng {ps : List Paper} {x : Int × Int} : ∀ n, x ∈ foundOf ps n → ∃ i j : Nat, x = ((i : Int), (j : Int)) ∧ i < j ∧ j < n
  | 0, h => by simp [foundOf] at h
  | n + 1, h => by
    rcases List.mem_append.mp (show x ∈ foundOf ps n ++ List.map _ _ from h) with h | h
    · obtain ⟨i, j, h1, h2, h3⟩ := found_rng n h
      exact ⟨i, j, h1, h2, by omega⟩
    · obtain ⟨y, hy, rfl⟩ := List.mem_map.mp h
      obtain ⟨h3, h4⟩ := mem_rng.mp (List.mem_filter.mp hy).1
      exact ⟨y.toNat, n, by rw [Int.toNat_of_nonneg h3], by omega, by omega⟩
theorem dall_memB {xs : List Cell} {c : Cell} : (dget (dall (sset xs)) c).isSome = memB c xs := by
  rw [Bool.eq_iff_iff, dall_mem, mem_sset, memB_iff]
section
variable {P : Program} {w : World} {K : PySem.W.Frag} {mg : Str → Option Value} {base : Heap} {C : Addr}
def spSteps (C : Addr) : Sp := S1W fun P1 Pz => ∃ ps : List Paper, P1 = li ps ∧ ps.length ≤ 1000 ∧ Pz = lr (stR C) ps
def spTiesOf (C : Addr) : Sp := S1 fun P1 Pz => ∃ ps : List Paper, P1 = lr (stR C) ps ∧ ps.length ≤ 100 ∧ (∀ p, p ∈ ps → smallP p) ∧ Pz = en (tiesP ps)
end
end TB
set_option Elab.async false
set_option linter.all false
set_option maxRecDepth 100000
set_option maxHeartbeats 4000000
/-! D18: lists of lists; waits_of. -/
namespace TB
open PySem PySem.Spec PyProof.Rows L2
/-- at p a list of the lists at as -/
structure LL (H : Hp) (p : Addr) (as : List Addr) (xss : List (List Int)) : Prop where
  at' : H p = some (.lst (as.map V.ref))
  each : Paired (fun a xs => Ls H a xs) as xss
  nd : as.Nodup
  no : p ∉ as
theorem LL.up {H H' : Hp} {p : Addr} {as : List Addr} {xss : List (List Int)} (h : LL H p as xss) (e : Ex H H') : LL H' p as xss := ⟨e _ _ h.at', paired_map h.each fun _ _ z => z.up e, h.nd, h.no⟩
theorem LL.mv {S : List Addr} {H H' : Hp} {p : Addr} {as : List Addr} {xss : List (List Int)} (h : LL H p as xss) (m : Mv S H H') (hp : p ∉ S) (ha : ∀ a, a ∈ as → a ∉ S) : LL H' p as xss := by
  refine ⟨m.ch _ _ hp h.at', ?_, h.nd, h.no⟩
  have key : ∀ {as : List Addr} {xss : List (List Int)}, Paired (fun a xs => Ls H a xs) as xss → (∀ a, a ∈ as → a ∉ S) → Paired (fun a xs => Ls H' a xs) as xss := by
    intro as xss h hs
    induction h with
    | nil => exact .nil
    | cons x _ ih => exact .cons (x.mv (hs _ List.mem_cons_self) m) (ih fun a ha => hs a (List.mem_cons_of_mem _ ha))
  exact key h.each ha
theorem LL.len {H : Hp} {p : Addr} {as : List Addr} {xss : List (List Int)} (h : LL H p as xss) : as.length = xss.length := Paired.length h.each
/-- the j-th list has grown -/
theorem LL.put {H H' : Hp} {p a : Addr} {as : List Addr} {xss : List (List Int)} {j : Nat} {xs : List Int} (h : LL H p as xss) (hj : as[j]? = some a) (b : Bt a H H') (hl : Ls H' a xs) : LL H' p as (xss.set j xs) := by
  have hap : p ≠ a := fun z => h.no (by rw [z]; exact List.mem_of_getElem? hj)
  refine ⟨by rw [b.ne p hap]; exact h.at', ?_, h.nd, h.no⟩
  have key : ∀ {as : List Addr} {xss : List (List Int)} {j : Nat}, Paired (fun a xs => Ls H a xs) as xss → as.Nodup → as[j]? = some a → Paired (fun a xs => Ls H' a xs) as (xss.set j xs) := by
    intro as xss j h nd hj
    induction h generalizing j with
    | nil => simp at hj
    | @cons c ys as xss x t ih =>
      obtain ⟨n1, n2⟩ := List.nodup_cons.mp nd
      cases j with
      | zero =>
        simp at hj
        subst hj
        refine .cons hl (paired_mapm t fun d zs hd z => z.but (fun e => n1 (by rw [← e]; exact hd)) b)
      | succ j =>
        refine .cons (x.but (fun e => n1 ?_) b) (ih n2 (by simpa using hj))
        rw [e]
        exact List.mem_of_getElem? (by simpa using hj)
  exact key h.each h.nd hj
where
  paired_mapm {α β : Type} {F G : α → β → Prop} {l : List α} {m : List β} (p : Paired F l m) (h : ∀ a b, a ∈ l → F a b → G a b) : Paired G l m := by
    induction p with
    | nil => exact .nil
    | cons x _ ih => exact .cons (h _ _ List.mem_cons_self x) (ih fun a b ha => h a b (List.mem_cons_of_mem _ ha))
section
variable {K : PySem.W.Frag} {s : TSt} {H : Hp} {ta tb tl te : TE} {D : Ends} {u tu : TS} {α : Type} {R : Rl α}
/-- xss[j] as an address -/
theorem ev_ixA {p a : Addr} {as : List Addr} {j : Int} (hp : H p = some (.lst (as.map V.ref))) (ha : EvP ta s H (va (.ref p))) (hb : EvP tb s H (en j)) (h : atI as j = some a) : EvP (tOp (rIxL K) ta tb) s H (va (.ref a)) := fun H1 e Q q =>
  ha H1 e _ fun v H2 e2 hv => hb H2 (e.tr e2) _ fun w H3 e3 hw => by
    obtain rfl : v = .ref p := hv
    refine ⟨p, as.map V.ref, j, .ref a, rfl, hw, .inl (.inl (((e.tr e2).tr e3) _ _ hp)), ?_, q _ H3 (e2.tr e3) rfl⟩
    unfold atI at h ⊢
    rw [List.length_map]
    cases hj : ixN as.length j with
    | none =>
      rw [hj] at h
      cases h
    | some k =>
      rw [hj] at h
      show (as.map V.ref)[k]? = _
      rw [List.getElem?_map, (show as[k]? = some a from h)]
      rfl
/-- [[] for x in xs] -/
theorem q_asgLL {i k : Nat} {vs : List Nat} {xs : List α} (h : EvP tl s H (lr R xs)) (hl : xs.length ≤ 1000000) (hw : ∀ u, wipe ((wipe s vs).set i (some u)) vs = wipe s vs)
    (kk : ∀ p as H1, Ex H H1 → H p = none → (∀ a, a ∈ as → H a = none) → LL H1 p as (xs.map fun _ => []) → u D (s.set k (some (.ref p))) H1) : tSeq (tAsg (tLc (iList K tl) (gName i) tYes (tLst tNil) vs) (gName k)) u D s H :=
  h H Ex.same _ fun v H2 e2 ⟨a, ev, us, ha, hp⟩ => by
    subst ev
    refine ⟨a, rfl, ⟨us, .inl (.inl ha)⟩, fun D' hD => lc_list (K := K) (a := a) (xs := us) (fun i H' => Ex H2 H' ∧ ∃ as, (∀ a, a ∈ as → H2 a = none) ∧ LL H' D' as ((xs.take i).map fun _ => [])) ⟨Ex.new hD, [], fun a ha => absurd ha List.not_mem_nil, upd_same, .nil, List.nodup_nil, List.not_mem_nil⟩ (fun i H' _ I => .inl (.inl (I.1 _ _ ha))) (fun i x H' hu I => ?_) fun H' I => ?_⟩
    · obtain ⟨y, hy, _⟩ := paired_getL hp hu
      obtain ⟨eX, as, hn, hL⟩ := I
      refine ⟨hw x, raw_yes ⟨Nat.zero_le _, fun q hq => ?_⟩⟩
      have hL2 := hL.up (Ex.new (o := HO.lst []) hq)
      have hqD : D' ≠ q := fun z => by
        have := hL.at'
        rw [z, hq] at this
        cases this
      have hqas : q ∉ as := fun z => by
        obtain ⟨i, hi, e⟩ := List.getElem_of_mem z
        obtain ⟨xs, h1, h2⟩ := paired_getL hL.each (by rw [List.getElem?_eq_getElem hi, e])
        exact h2.nn hq
      have bD : Bt D' (upd H' q (.lst [])) (upd (upd H' q (.lst [])) D' (.lst (as.map V.ref ++ [.ref q]))) := ⟨Tu.mutL hL2.at', fun r hr => upd_ne hr⟩
      refine ⟨as.map V.ref, hL2.at', by
        rw [List.length_map, hL.len, List.length_map]
        have := List.length_take_le' i xs
        exact sz_lt (by omega), (eX.tr (Ex.new hq)).mut hD, as ++ [q], fun b hb => ?_, ?_, ?_, ?_, ?_⟩
      · rcases List.mem_append.mp hb with h | h
        · exact hn b h
        · rw [List.mem_singleton.mp h]
          exact eX.back hq
      · rw [upd_same, List.map_append]
        rfl
      · rw [take_snoc hy, List.map_append]
        have key : ∀ {as : List Addr} {xss : List (List Int)}, Paired (fun a xs => Ls (upd H' q (.lst [])) a xs) as xss → D' ∉ as → Paired (fun a xs => Ls (upd (upd H' q (.lst [])) D' (.lst (as.map V.ref ++ [.ref q]))) a xs) as xss → True := fun _ _ _ => trivial
        clear key
        have key : ∀ {as' : List Addr} {xss : List (List Int)}, Paired (fun a xs => Ls (upd H' q (.lst [])) a xs) as' xss → D' ∉ as' → Paired (fun a xs => Ls (upd (upd H' q (.lst [])) D' (.lst (as.map V.ref ++ [.ref q]))) a xs) as' xss := by
          intro as' xss h hs
          induction h with
          | nil => exact .nil
          | cons x _ ih => exact .cons (x.but (fun z => hs (by rw [← z]; exact List.mem_cons_self)) bD) (ih fun z => hs (List.mem_cons_of_mem _ z))
        exact paired_app (key hL2.each hL2.no) (.cons (Ls.but ⟨[], upd_same, .nil⟩ hqD.symm bD) .nil)
      · rw [List.nodup_append]
        refine ⟨hL.nd, by simp, fun c hc d hd e => hqas ?_⟩
        rw [List.mem_singleton.mp hd] at e
        rw [← e]
        exact hc
      · intro z
        rcases List.mem_append.mp z with h | h
        · exact hL.no h
        · exact hqD (List.mem_singleton.mp h)
    · obtain ⟨eX, as, hn, hL⟩ := I
      rw [hp.length, List.take_length] at hL
      exact kk D' as H' (e2.tr eX) (e2.back hD) (fun a ha => e2.back (hn a ha)) hL
end
section
variable {P : Program} {w : World} {K : PySem.W.Frag} {mg : Str → Option Value} {base : Heap} {C : Addr}
/-- W j i: step j waits for step i -/
def spWaits (C : Addr) : Sp := fun vs H Q _ => ∃ v ps, vs = [v] ∧ (lr (stR C) ps).p H v ∧ ps.length ≤ 100 ∧ (∀ p, p ∈ ps → smallP p) ∧
  ∀ p as xss H', Ex H H' → H p = none → (∀ a, a ∈ as → H a = none) → LL H' p as xss → xss.length = ps.length → (∀ (j : Nat) (i : Int), i ∈ xss[j]?.getD [] ↔ (i, (j : Int)) ∈ tiesP ps) → (∀ xs, xs ∈ xss → xs.length ≤ 10000) → Q (.ref p) H'
end
end TB
set_option Elab.async false
set_option linter.all false
set_option maxRecDepth 100000
set_option maxHeartbeats 4000000
/-! D19: rounds_of. -/
namespace TB
open PySem PySem.Spec PyProof.Rows L2
/-- the greatest, or 0 -/
def mxd : List Int → Int
  | [] => 0
  | y :: ys => mostOf y ys
theorem mostOf_int : ∀ (y : Int) (ys : List Int), mostOf y ys ∈ y :: ys ∧ ∀ z, z ∈ y :: ys → z ≤ mostOf y ys
  | y, [] => ⟨List.mem_cons_self, fun z hz => by rw [List.mem_singleton.mp hz]; exact Int.le_refl _⟩
  | y, x :: r => by
    have e : mostOf y (x :: r) = mostOf (if EncO.lt y x = true then x else y) r := rfl
    have hlt : EncO.lt y x = decide (y < x) := rfl
    obtain ⟨h1, h2⟩ := mostOf_int (if EncO.lt y x = true then x else y) r
    rw [e]
    by_cases q : y < x
    · rw [hlt, decide_eq_true q, if_pos rfl] at h1 h2 ⊢
      refine ⟨?_, fun z hz => ?_⟩
      · rcases List.mem_cons.mp h1 with h | h
        · rw [h]
          exact List.mem_cons_of_mem _ List.mem_cons_self
        · exact List.mem_cons_of_mem _ (List.mem_cons_of_mem _ h)
      · rcases List.mem_cons.mp hz with h | h
        · have := h2 x List.mem_cons_self
          omega
        · exact h2 z h
    · rw [hlt, decide_eq_false q, if_neg Bool.false_ne_true] at h1 h2 ⊢
      refine ⟨?_, fun z hz => ?_⟩
      · rcases List.mem_cons.mp h1 with h | h
        · rw [h]
          exact List.mem_cons_self
        · exact List.mem_cons_of_mem _ (List.mem_cons_of_mem _ h)
      · rcases List.mem_cons.mp hz with h | h
        · rw [h]
          exact h2 y List.mem_cons_self
        · rcases List.mem_cons.mp h with h | h
          · have := h2 y List.mem_cons_self
            omega
          · exact h2 z (List.mem_cons_of_mem _ h)
theorem mxd_mem {zs : List Int} (h : zs ≠ []) : mxd zs ∈ zs ∧ ∀ z, z ∈ zs → z ≤ mxd zs := by
  cases zs with
  | nil => exact absurd rfl h
  | cons y r => exact mostOf_int y r
/-- after m steps: their numbers, the rounds; W j i: j waits for i -/
structure RI (W : Nat → Int → Prop) (m : Nat) (nums : List Int) (rs : List (List Int)) : Prop where
  len : nums.length = m
  num : ∀ (j : Nat) (v : Int), nums[j]? = some v → 0 ≤ v ∧ v < rs.length ∧ (∀ i, W j i → ∃ u, nums[i.toNat]? = some u ∧ u + 1 ≤ v) ∧ (v = 0 ∨ ∃ i, W j i ∧ nums[i.toNat]? = some (v - 1))
  rnd : ∀ (k : Nat) (xs : List Int), rs[k]? = some xs → xs = (rng 0 m).filter (fun j => decide (nums[j.toNat]? = some (k : Int))) ∧ xs ≠ []
theorem rng_succ (n : Nat) : rng 0 (n + 1) = rng 0 n ++ [(n : Int)] := by
  unfold rng
  rw [List.range_succ, List.map_append]
  simp
theorem RI.next {W : Nat → Int → Prop} {m : Nat} {nums : List Int} {rs rs' : List (List Int)} {v : Nat} {xs : List Int} (I : RI W m nums rs) (hW : ∀ i, W m i → 0 ≤ i ∧ i < (m : Int)) (h0 : (v : Int) < rs'.length)
    (h1 : ∀ i, W m i → ∃ u, nums[i.toNat]? = some u ∧ u + 1 ≤ (v : Int)) (h2 : (v : Int) = 0 ∨ ∃ i, W m i ∧ nums[i.toNat]? = some ((v : Int) - 1)) (hrs : rs' = rs ∨ (rs' = rs ++ [[]] ∧ v = rs.length)) (hx : rs'[v]? = some xs) : RI W (m + 1) (nums ++ [(v : Int)]) (rs'.set v (xs ++ [(m : Int)])) := by
  have hlen : rs.length ≤ rs'.length := by
    rcases hrs with h | ⟨h, _⟩
    · rw [h]
      exact Nat.le_refl _
    · rw [h, List.length_append]
      omega
  have old : ∀ {j : Nat} {u : Int}, nums[j]? = some u → (nums ++ [(v : Int)])[j]? = some u := fun {j u} h => by
    rw [List.getElem?_append_left (List.getElem?_eq_some_iff.mp h).1]
    exact h
  have flt : ∀ k : Nat, (rng 0 (m + 1)).filter (fun j => decide ((nums ++ [(v : Int)])[j.toNat]? = some (k : Int))) = (rng 0 m).filter (fun j => decide (nums[j.toNat]? = some (k : Int))) ++ (if k = v then [(m : Int)] else []) := fun k => by
    rw [rng_succ, List.filter_append]
    congr 1
    · refine List.filter_congr fun j hj => ?_
      obtain ⟨a, b⟩ := mem_rng.mp hj
      rw [List.getElem?_append_left (by have := I.len; omega)]
    · rw [List.filter_cons, Int.toNat_natCast, List.getElem?_append_right (by have := I.len; omega), show m - nums.length = 0 by have := I.len; omega]
      by_cases e : k = v
      · subst e
        simp
      · have : ¬ (v : Int) = (k : Int) := by omega
        simp [e, this]
  have rold : ∀ (k : Nat) (ys : List Int), rs'[k]? = some ys → ys = (rng 0 m).filter (fun j => decide (nums[j.toNat]? = some (k : Int))) ∧ (k ≠ v → ys ≠ []) := fun k ys hy => by
    rcases hrs with h | ⟨h, hv⟩
    · rw [h] at hy
      exact ⟨(I.rnd k ys hy).1, fun _ => (I.rnd k ys hy).2⟩
    · rw [h] at hy
      by_cases e : k < rs.length
      · rw [List.getElem?_append_left e] at hy
        exact ⟨(I.rnd k ys hy).1, fun _ => (I.rnd k ys hy).2⟩
      · have hk : k = rs.length := by
          have := (List.getElem?_eq_some_iff.mp hy).1
          rw [List.length_append, List.length_singleton] at this
          omega
        subst hk
        rw [List.getElem?_append_right (Nat.le_refl _), Nat.sub_self] at hy
        cases hy
        refine ⟨?_, fun z => absurd hv.symm z⟩
        symm
        refine List.filter_eq_nil_iff.mpr fun j hj z => ?_
        have := (I.num _ _ (of_decide_eq_true z)).2.1
        omega
  refine ⟨by rw [List.length_append, I.len]; rfl, fun j u hu => ?_, fun k ys hy => ?_⟩
  · rw [List.length_set]
    by_cases e : j < m
    · rw [List.getElem?_append_left (by have := I.len; omega)] at hu
      obtain ⟨a, b, c, d⟩ := I.num j u hu
      refine ⟨a, by omega, fun i hi => ?_, d.imp id fun ⟨i, p, q⟩ => ⟨i, p, old q⟩⟩
      obtain ⟨w, p, q⟩ := c i hi
      exact ⟨w, old p, q⟩
    · have hj : j = m := by
        have := (List.getElem?_eq_some_iff.mp hu).1
        rw [List.length_append, List.length_singleton, I.len] at this
        omega
      subst hj
      rw [List.getElem?_append_right (by have := I.len; omega), show j - nums.length = 0 by have := I.len; omega] at hu
      cases hu
      refine ⟨by omega, h0, fun i hi => ?_, h2.imp id fun ⟨i, p, q⟩ => ⟨i, p, old q⟩⟩
      obtain ⟨w, p, q⟩ := h1 i hi
      exact ⟨w, old p, q⟩
  · rw [flt, List.getElem?_set] at *
    by_cases e : v = k
    · subst e
      rw [if_pos rfl] at hy
      split at hy
      · cases hy
        rw [if_pos rfl, (rold v xs hx).1]
        exact ⟨rfl, List.append_ne_nil_of_right_ne_nil _ (List.cons_ne_nil _ _)⟩
      · cases hy
    · rw [if_neg e] at hy
      rw [if_neg fun z => e z.symm, List.append_nil]
      exact ⟨(rold k ys hy).1, (rold k ys hy).2 fun z => e z.symm⟩
section
variable {K : PySem.W.Frag} {s : TSt} {H : Hp} {ta tb tl te : TE} {D : Ends} {u tu tw : TS}
theorem ev_maxDf {zs : List Int} (ha : EvP ta s H (li zs)) : EvP (tCKw rMaxDf (tCons ta tNil) (tCons (tC (.int 0)) tNil)) s H (en (mxd zs)) := fun H1 e Q q =>
  ha H1 e _ fun v H2 e2 ⟨l, ev, hl⟩ => ⟨l, zs, 0, by rw [ev], rfl, hl, fun z => q _ H2 e2 (by rw [z]; exact rfl), fun y ys z => q _ H2 e2 (by rw [z]; exact rfl)⟩
theorem ev_lenLL {p : Addr} {as : List Addr} {xss : List (List Int)} {r : List V → Hp → VK → Prop} (hr : r = fun xs H Q => ∃ p ys, xs = [V.ref p] ∧ (SqL K H p ys ∨ SqT K H p ys) ∧ Q (.int ys.length) H) (hL : LL H p as xss) (ha : EvP ta s H (va (.ref p))) : EvP (tCB r (tCons ta tNil)) s H (en (xss.length : Int)) := fun H1 e Q q =>
  ha H1 e _ fun v H2 e2 hv => by
    obtain rfl : v = .ref p := hv
    subst hr
    exact ⟨p, _, rfl, .inl (.inl (.inl (hL.up (e.tr e2)).at')), q _ H2 e2 (by rw [List.length_map, hL.len]; exact rfl)⟩
/-- xss.append([]) -/
theorem s_appLL {p : Addr} {as : List Addr} {xss : List (List Int)} (hL : LL H p as xss) (ha : EvP ta s H (va (.ref p))) (hz : xss.length < 1000000) (k : ∀ b H1 H2, Ex H H1 → H1 b = none → (∃ H3, Ex H1 H3 ∧ Bt p H3 H2) → LL H2 p (as ++ [b]) (xss ++ [[]]) → D.nx s H2) :
    tDrop (tBM K "list" rAppend ta (tCons (tLst tNil) tNil)) D s H := ha H Ex.same _ fun v H1 e1 hv => by
  obtain rfl : v = .ref p := hv
  have hL1 := hL.up e1
  refine ⟨.inl ⟨rfl, _, .inl (.inl hL1.at')⟩, Nat.zero_le _, fun b hb => ?_⟩
  have hL2 := hL1.up (Ex.new (o := HO.lst []) hb)
  have hpb : p ≠ b := fun z => by
    have := hL1.at'
    rw [z, hb] at this
    cases this
  have hbas : b ∉ as := fun z => by
    obtain ⟨i, hi, e⟩ := List.getElem_of_mem z
    obtain ⟨xs, h1, h2⟩ := paired_getL hL1.each (by rw [List.getElem?_eq_getElem hi, e])
    exact h2.nn hb
  have bD : Bt p (upd H1 b (.lst [])) (upd (upd H1 b (.lst [])) p (.lst (as.map V.ref ++ [.ref b]))) := ⟨Tu.mutL hL2.at', fun r hr => upd_ne hr⟩
  refine ⟨p, as.map V.ref, .ref b, rfl, rfl, hL2.at', by rw [List.length_map, hL.len]; exact sz_lt (by omega), k b H1 _ e1 hb ⟨_, Ex.new hb, bD⟩ ⟨by rw [upd_same, List.map_append]; rfl, ?_, ?_, ?_⟩⟩
  · have key : ∀ {as' : List Addr} {xss : List (List Int)}, Paired (fun a xs => Ls (upd H1 b (.lst [])) a xs) as' xss → p ∉ as' → Paired (fun a xs => Ls (upd (upd H1 b (.lst [])) p (.lst (as.map V.ref ++ [.ref b]))) a xs) as' xss := by
      intro as' xss h hs
      induction h with
      | nil => exact .nil
      | cons x _ ih => exact .cons (x.but (fun z => hs (by rw [← z]; exact List.mem_cons_self)) bD) (ih fun z => hs (List.mem_cons_of_mem _ z))
    exact paired_app (key hL2.each hL2.no) (.cons (Ls.but ⟨[], upd_same, .nil⟩ hpb.symm bD) .nil)
  · rw [List.nodup_append]
    refine ⟨hL.nd, by simp, fun c hc d hd e => hbas ?_⟩
    rw [List.mem_singleton.mp hd] at e
    rw [← e]
    exact hc
  · intro z
    rcases List.mem_append.mp z with h | h
    · exact hL.no h
    · exact hpb (List.mem_singleton.mp h)
/-- [e for xs in xss], e a datum -/
theorem en_lcLL {i : Nat} {vs : List Nat} {β : Type} [DecidableEq β] [Enc β] {p : Addr} {as : List Addr} {xss : List (List Int)} {f : List Int → β} (hL : LL H p as xss) (h : EvP tl s H (va (.ref p))) (hl : xss.length ≤ 1000000)
    (hb : ∀ xs a H', Ex H H' → Ls H' a xs → EvP te ((wipe s vs).set i (some (.ref a))) H' (en (f xs)))
    (hw : ∀ u, wipe ((wipe s vs).set i (some u)) vs = wipe s vs := by intro u; rfl) : EvN (tLc (iList K tl) (gName i) tYes te vs) s H (xss.map f) := fun H1 e Q q =>
  h H1 e _ fun v H2 e2 hv => by
    obtain rfl : v = .ref p := hv
    have hL2 := hL.up (e.tr e2)
    refine ⟨p, rfl, ⟨_, .inl (.inl hL2.at')⟩, fun D hD => lc_list (K := K) (a := p) (xs := as.map V.ref) (fun i H' => LcInv H2 D ((xss.take i).map f) H') (lcInv_0 hD) (fun i H' _ I => .inl (.inl (I.1 _ _ hL2.at'))) (fun i u H' hu I => ?_) fun H' I => ?_⟩
    · rw [List.getElem?_map] at hu
      obtain ⟨a, ha, rfl⟩ := Option.map_eq_some_iff.mp hu
      obtain ⟨xs, hx, hr⟩ := paired_getL hL2.each ha
      refine ⟨hw _, lc_turn (b := true) (z := f xs) hD I ?_ eb_yes (fun _ => hb xs a H' ((e.tr e2).tr I.1) (hr.up I.1)) fun H2 I2 => ?_⟩
      · rw [List.length_map]
        have := List.length_take_le' i xss
        omega
      · rw [take_snoc hx, List.map_append]
        exact I2
    · rw [List.length_map, hL2.len, List.take_length] at I
      exact q D H' (e2.back hD) (e2.tr I.1) I.2
end
section
variable {P : Program} {w : World} {K : PySem.W.Frag} {mg : Str → Option Value} {base : Heap} {C : Addr}
end
end TB
set_option Elab.async false
set_option linter.all false
set_option maxRecDepth 100000
set_option maxHeartbeats 4000000
/-! D20: first_broken. -/
namespace TB
open PySem PySem.Spec PyProof.Rows L2
section
variable {X : Cx}
theorem sw_trueD {kx vx : Expr} {gs : List Comprehension} {scope : Scope} {pos py : Pos} {y : Str} {l : Nat} {env : Env} (hk : env.scope.kind = .function) (hy : env.scope.names.lookup y = some .local) (hl : (py.line == pos.line) = true)
    (ha : (scope.names.any fun (n, k) => n == y && (k == .local || k == .cell)) = false) : swapsWith (.DictComp kx vx gs scope pos) (some (.Name y py)) l env = pure true := by
  have ky : env.kindOf y = some .local := hy
  have hb : env.blockKind = .function := by unfold Env.blockKind; rw [hk]; rfl
  unfold swapsWith
  simp only [hb, ky, ha, Expr.pos, hl]
  rfl
/-- name = {..} on one line, the name a local -/
theorem ps_setDc {i : Nat} {y : Str} {py : Pos} {kx vx tg iter : Expr} {ifs : List Expr} {scope : Scope} {own : List (Str × Nat)} {pos spos : Pos} {wi : TI} {g : TG} {tt : TT} {tk tv : TE} (hc : X.calm = true) (hN : X.N.Nodup) (hy : X.N[i]? = some y) (hyl : X.env.scope.names.lookup y = some .local)
    (hsw : swapsWith (.DictComp kx vx [⟨tg, iter, ifs, 0⟩] scope pos) (some (.Name y py)) spos.line X.env = pure true) (hi : PI X tg iter wi) (ok : BlkOk X.N X.env.scope scope own)
    (hg : ∀ (s : Shared) (H : Hp) (C : Addr) (cl : List (Str × Addr)) (fp : List Addr), PG (X.blk s H scope (compEnvC scope cl C X.env) fp) tg g) (ht : ∀ (s : Shared) (H : Hp) (C : Addr) (cl : List (Str × Addr)) (fp : List Addr), PTs (X.blk s H scope (compEnvC scope cl C X.env) fp) ifs tt)
    (hk : ∀ (s : Shared) (H : Hp) (C : Addr) (cl : List (Str × Addr)) (fp : List Addr), PE (X.blk s H scope (compEnvC scope cl C X.env) fp) kx tk)
    (he : ∀ (s : Shared) (H : Hp) (C : Addr) (cl : List (Str × Addr)) (fp : List Addr), PE (X.blk s H scope (compEnvC scope cl C X.env) fp) vx tv) (hs : ∀ x, foldedSetIterable iter X.env x = pure x := by intro _; rfl) :
    PS X (.Assign [.Name y py] (.DictComp kx vx [⟨tg, iter, ifs, 0⟩] scope pos) spos) (tAsg (tDc wi g tt tk tv (own.map (·.2))) (gName i)) := by
  refine ⟨fun pins s σ H D I h => ?_⟩
  rw [exec_Assign_Name_used _ _ _ _ hsw]
  refine wpAny_bind (wpAny_standAt (wpAny_bind ?_))
  show wpAny _ X.A (do let _ ← comprehension (.DictComp kx vx [⟨tg, iter, ifs, 0⟩] scope pos) scope X.env (firstIterPos [⟨tg, iter, ifs, 0⟩] pos) newDict false (eval iter X.env) (some (assign (.Name y py) X.env))) _ _ s
  have h : tDc wi g tt tk tv (own.map (·.2)) σ H (fun x H1 => gName i x σ H1 D.nx) := h
  refine wpAny_bind (thn (dc_core (Qf := fun _ s' => SP X pins D .next s') hc hN I hi ok hg ht hk he hs h fun L C s' m H' I' q hn f => ?_) fun _ s' hq => wpAny_pure (wpAny_pure hq))
  show wpAny _ _ (assign (.Name y py) X.env (.ref L)) _ _ _
  refine wpAny_assign_Name (store_ok2 (v := V.ref L) I' hN hy (.inl hyl) rfl (fun s2 I2 ⟨a, sb, ha⟩ => ?_) (.inr hyl))
  obtain ⟨f0, f1, f2, f3, f4, f5⟩ := f
  have haC : C ≠ a := by
    rcases ha with z | z
    · rw [z]; exact f1
    · exact fun e => f4 y a z e.symm
  refine ⟨m, hn.sameBut sb haC, fun h3 sb3 => ?_⟩
  exact ⟨_, H', I2.turned (t' := s2.toks) (fun b o hb e => (sb3.2 b hb).trans e) f0 f1 f3 f4 f5, q⟩
end
/-- a dict that tells each item's place -/
def plP (order : List Int) : Pd := ⟨fun H v => ∃ d kvs, v = .ref d ∧ H d = some (.dK kvs) ∧ ∀ (k : Nat) (x : Int), order[k]? = some x → valV kvs (.inl x) = some (.int (k : Int)), fun e ⟨d, kvs, h1, h2, h3⟩ => ⟨d, kvs, h1, e _ _ h2, h3⟩⟩
theorem ints_of {H : Hp} {us : List V} {xs : List Int} (h : Paired (Enc.r H) us xs) : us = xs.map V.int := by
  induction h with
  | nil => rfl
  | cons x _ ih => rw [List.map_cons, ← ih, (show _ = V.int _ from x)]
theorem bools_of {H : Hp} {us : List V} {xs : List Bool} (h : Paired (Enc.r H) us xs) : us = xs.map V.bl := by
  induction h with
  | nil => rfl
  | cons x _ ih => rw [List.map_cons, ← ih, (show _ = V.bl _ from x)]
theorem of_ints {H : Hp} : ∀ xs : List Int, Paired (Enc.r H) (xs.map V.int) xs
  | [] => .nil
  | x :: r => .cons rfl (of_ints r)
theorem nodup_at {xs : List Int} (h : xs.Nodup) {i j : Nat} {x : Int} (hi : xs[i]? = some x) (hj : xs[j]? = some x) : i = j := by
  obtain ⟨a, ea⟩ := List.getElem?_eq_some_iff.mp hi
  obtain ⟨b, eb⟩ := List.getElem?_eq_some_iff.mp hj
  exact (List.getElem_inj h).mp (ea.trans eb.symm)
section
variable {K : PySem.W.Frag} {s : TSt} {H : Hp} {ta tb tl te : TE}
theorem ev_listRg {n : Int} (h : EvP te s H (en n)) (h0 : 0 ≤ n) (h1 : n ≤ 1000000) : EvN (tLstRg (tRg1 te)) s H (rng 0 n.toNat) := fun H1 e Q q =>
  h H1 e _ fun v H2 e2 hv => by
    obtain rfl : v = .int n := hv
    refine ⟨n, rfl, ⟨by omega, by omega, by omega, by omega, by omega⟩, fun p hp => q p _ (e2.back hp) (e2.tr (Ex.new hp)) ⟨_, upd_same, ?_⟩⟩
    have e : rgV 0 n = (rng 0 n.toNat).map V.int := by
      unfold rgV rng
      rw [Int.sub_zero, List.map_map]
      rfl
    rw [e]
    exact of_ints _
theorem ev_allB {bs : List Bool} (h : EvP te s H (li bs)) : EvP (tCB (rAll K) (tCons te tNil)) s H (en (bs.all id)) := fun H1 e Q q =>
  h H1 e _ fun v H2 e2 ⟨l, ev, us, h1, h2⟩ => ⟨l, bs, by rw [ev], .inl (.inl (by rw [h1, bools_of h2])), q _ H2 e2 rfl⟩
/-- {x: k for k, x in enumerate(xs)} -/
theorem ev_dcE {i j : Nat} {vs : List Nat} {xs : List Int} (h : EvP tl s H (li xs)) (hl : xs.length ≤ 1000) (hn : xs.Nodup) (hw : ∀ u w, wipe (((wipe s vs).set i (some u)).set j (some w)) vs = wipe s vs)
    (hi : ∀ u w, (((wipe s vs).set i (some u)).set j (some w))[i]? = some (some u)) (hj : ∀ u w, (((wipe s vs).set i (some u)).set j (some w))[j]? = some (some w)) : EvP (tDc (iEnum K (tCons tl tNil)) (gTup K 2 (gCons (gName i) (gCons (gName j) gNil))) tYes (tVar j) (tVar i) vs) s H (plP xs) := fun H1 e Q q =>
  h H1 e _ fun v H2 e2 ⟨a, ev, us, ha, hp⟩ => by
    subst ev
    refine ⟨a, us, rfl, .inl (.inl ha), fun D hD => ?_⟩
    refine ⟨fun k m H' => m = us.length - k ∧ k ≤ us.length ∧ Ex H2 H' ∧ ∃ kvs, H' D = some (.dK kvs) ∧ kvs.length ≤ k ∧ ∀ (n : Nat) (x : Int), n < k → xs[n]? = some x → valV kvs (.inl x) = some (.int (n : Int)), ⟨us.length, by simp, Nat.zero_le _, Ex.new hD, [], upd_same, Nat.le_refl _, fun n x hn => by omega⟩, fun k m H' ⟨em, hk, eX, kvs, hDs, hkl, hval⟩ => ?_⟩
    subst em
    have hul := hp.length
    by_cases hlt : k < us.length
    · refine .inr ⟨⟨us, us[k], .inl (.inl (eX _ _ ha)), by simp [hlt]⟩, fun H' => Ex H2 H' ∧ ∃ kvs, H' D = some (.dK kvs) ∧ kvs.length ≤ k + 1 ∧ ∀ (n : Nat) (x : Int), n < k + 1 → xs[n]? = some x → valV kvs (.inl x) = some (.int (n : Int)), fun H' N => ⟨us.length - (k + 1), by omega, rfl, hlt, N⟩, fun x H'' y => ?_⟩
      obtain ⟨T, z, rfl, nT, rfl, y⟩ := y
      have hx : us[k]? = some z := y us (.inl (.inl (eX _ _ ha)))
      obtain ⟨c, hc, hr⟩ := paired_getL hp hx
      obtain rfl : z = .int c := hr
      have eT := Ex.new (o := HO.tup [V.int (k : Int), V.int c]) nT
      refine ⟨T, [.int (k : Int), .int c], rfl, .inl (.inl upd_same), rfl, _, [.int c], rfl, _, [], rfl, rfl, hw _ _, raw_yes ⟨_, hj _ _, _, hi _ _, kvs, .inl c, rfl, eT _ _ hDs, sz_lt (by omega), (eX.tr eT).mut hD, _, upd_same, ?_, fun n x hn' hx' => ?_⟩⟩
      · have := length_putK kvs (.inl c) (.int (k : Int))
        omega
      · rw [valV_put]
        by_cases e0 : x = c
        · subst e0
          have := nodup_at hn hx' hc
          subst this
          rw [if_pos rfl]
        · rw [if_neg fun z => e0 (Sum.inl.inj z)]
          refine hval n x ?_ hx'
          rcases Nat.lt_or_ge n k with q | q
          · exact q
          · have : n = k := by omega
            subst this
            rw [hc] at hx'
            cases hx'
            exact absurd rfl e0
    · have hk' : k = us.length := by omega
      subst hk'
      exact .inl ⟨⟨us, .inl (.inl (eX _ _ ha)), Nat.le_refl _⟩, q _ H' (e2.tr eX) ⟨D, kvs, rfl, hDs, fun n x hx => hval n x (by have := (List.getElem?_eq_some_iff.mp hx).1; omega) hx⟩⟩
theorem ev_plget {xs : List Int} {k : Nat} {x : Int} {td ty : TE} (hd : EvP td s H (plP xs)) (hx : EvP ty s H (en x)) (hk : xs[k]? = some x) : EvP (tDGet td ty) s H (en (k : Int)) := fun H1 e Q q =>
  hd H1 e _ fun w H2 e2 hw => hx H2 (e.tr e2) _ fun z H3 e3 hz => by
    obtain ⟨d, kvs, rfl, h1, h2⟩ := (plP xs).up e3 hw
    obtain rfl : z = .int x := hz
    exact ⟨d, .int (k : Int), rfl, h2 k x hk ▸ DGet.k (k := .inl x) h1, q _ H3 (e2.tr e3) rfl⟩
end
/-- the order keeps all ties of ps -/
structure Keeps (ps : List Paper) (order : List Int) : Prop where
  perm : order.Perm (rng 0 ps.length)
  ties : ∀ (a b : Nat) (i j : Int), (i, j) ∈ tiesP ps → order[a]? = some i → order[b]? = some j → a < b
theorem rng_nd (n : Nat) : (rng 0 n).Nodup := by
  unfold rng
  refine List.pairwise_map.mpr (List.nodup_range.imp fun {a b} h z => h ?_)
  have : (0 : Int) + (a : Int) = 0 + (b : Int) := z
  omega
theorem rng_srt (n : Nat) : (rng 0 n).Pairwise (fun x y => le x y = true) := by
  unfold rng
  refine List.pairwise_map.mpr ?_
  refine (List.pairwise_lt_range).imp fun {a b} h => ?_
  show (!decide (_ < _)) = true
  rw [Bool.not_eq_true', decide_eq_false_iff_not]
  omega
theorem Keeps.srt {ps : List Paper} {order : List Int} (h : Keeps ps order) : srt order = rng 0 ps.length := srt_one h.perm.symm (rng_srt _)
section
variable {P : Program} {w : World} {K : PySem.W.Frag} {mg : Str → Option Value} {base : Heap} {C : Addr}
def spBroken (C : Addr) : Sp := S2 fun P1 P2 Pz => ∃ (ps : List Paper) (order : List Int), P1 = lr (stR C) ps ∧ P2 = li order ∧ ps.length ≤ 100 ∧ (∀ p, p ∈ ps → smallP p) ∧ Keeps ps order ∧ Pz = nn
end
end TB
set_option Elab.async false
set_option linter.all false
set_option maxRecDepth 100000
set_option maxHeartbeats 2000000
/-! TU: sorted(tuple). -/
namespace TB
open PySem PySem.Spec PyProof.Rows L2
section
variable {prog : Program} {w : World} {A : Around} {E : Value → Shared → Prop} {s : Shared}
/-- what a tuple holds, collected -/
theorem collect_tup {l : Addr} {vs : List Value} {o : Obj} {n : Nat} {Q : List Value → Shared → Prop} (ho : s.heap.get? l = some o) (hc : o.cls = .type "tuple") (hd : o.data = .seq vs.toArray n)
    (h : Q vs { s with heap := (s.heap.push (seqObj "list" #[] 0)).update s.heap.objs.size (Obj.mapSeq (· ++ vs.toArray)) }) (hsz : vs.length ≤ sizeLine) :
    wpAny (model prog w) A (collect (.ref l)) Q E s := by
  unfold collect
  refine wpAny_bind (wpAny_runValue (codeAny_builtin entry_proto_collect' ?_))
  show wpAny _ _ (do again (.builtin "list.__iadd__" ⟨[← newList [], .ref l], []⟩)) _ _ s
  refine wpAny_bind (wpAny_newList (wpAny_pure ⟨Code.quiet_builtin _ (by decide +kernel), codeAny_builtin entry_list_iadd' ?_⟩))
  show wpAny _ _ (Builtin.List.listExtendWith (.ref s.heap.objs.size) (.ref l) (.ref s.heap.objs.size)) _ _ { s with heap := s.heap.push (seqObj "list" #[] 0) }
  unfold Builtin.List.listExtendWith
  have ho' : (s.heap.push (seqObj "list" #[] 0)).get? l = some o := Heap.get?_push_of_some _ ho
  refine wpAny_bind (wpAny_typeOf (T := "tuple") ⟨o, ho', hc⟩ ?_)
  have ht : (Value.type "tuple" == Value.type "tuple") = true := by rfl
  rw [if_pos (by rw [ht]; simp)]
  refine wpAny_bind (listItems_at ho' hd ?_)
  refine wpAny_bind (listItems_at (xs := #[]) (n := 0) (Heap.get?_push_size _ rfl) rfl ?_)
  rw [if_neg (by simp)]
  refine wpAny_bind (listUpdate_at (xs := #[]) (n := 0) (Heap.get?_push_size _ rfl) rfl ?_ (Nat.zero_le _) (by show (#[] ++ vs.toArray).size ≤ sizeLine + 1; simp only [Array.size_append, List.size_toArray, List.length_nil]; omega))
  refine wpAny_pure ?_
  show wpAny (model prog w) A (do
      let o ← load s.heap.objs.size
      match o.data with
      | .seq xs _ => pure xs.toList
      | _ => unsupported "internal:collect") Q E { s with heap := (s.heap.push (seqObj "list" #[] 0)).update s.heap.objs.size (Obj.mapSeq (· ++ vs.toArray)) }
  refine wpAny_bind (wpAny_load (get?_update_seq (Heap.get?_push_size _ rfl) _) ?_)
  show wpAny _ _ (pure ((#[] : Array Value) ++ vs.toArray).toList) Q E _
  rw [show ((#[] : Array Value) ++ vs.toArray).toList = vs by simp]
  exact wpAny_pure h
end
section
variable {X : Cx}
/-- sorted(t), t a tuple of ints -/
def rSortU : List V → Hp → VK → Prop := fun vs H Q => ∃ (xs : List Int), (∃ v, vs = [v] ∧ Enc.r H v xs) ∧ xs.length ≤ 1000 ∧ ∀ p, H p = none → Q (.ref p) (upd H p (.lst ((srt xs).map V.int)))
theorem cr_sortU (hu : X.A.units + 64 < cLine) : CallR X (.builtin "sorted") rSortU := by
  intro pins s t H vs us Q I r ⟨xs, ⟨v, ev, a, ws, ev2, ha, hw⟩, hxl, q⟩
  subst ev
  subst ev2
  obtain ⟨its, rv, ⟨o, ho, hc, n, hd⟩, hlen⟩ := I.tuple (.inl (.inl ha))
  rw [Vals.ref1 r]
  have e1 := ints_of hw
  subst e1
  have hits : its.length = xs.length := by
    rw [← rv.length, List.length_map]
  have hszl : its.length ≤ sizeLine := by
    rw [hits, sizeLine_eq]
    omega
  refine Calls.call_function_entry PyProof.Rows.kind_sorted PyProof.Rows.plain_sorted PyProof.Rows.entry_sorted (PyProof.Rows.args_sorted1 _) ?_
  unfold Builtin.«sorted»
  refine wpAny_bind (m := checkCount "sorted" 1 1 _) (wpAny_pure ?_)
  refine wpAny_bind (collect_tup ho hc hd ?_ hszl)
  generalize hs1 : ({ s with heap := (s.heap.push (seqObj "list" #[] 0)).update s.heap.objs.size (Obj.mapSeq (· ++ its.toArray)) } : Shared) = s1
  have k1 : ∀ b u, s.heap.get? b = some u → s1.heap.get? b = some u := fun b u e => by
    rw [← hs1]
    show ((s.heap.push _).update _ _).get? b = some u
    rw [Heap.get?_update_ne _ _ _ _ (Nat.ne_of_lt (Heap.lt_size e))]
    exact Heap.get?_push_of_some _ e
  have hz : s.heap.objs.size ≤ s1.heap.objs.size := by
    rw [← hs1]
    show _ ≤ ((s.heap.push _).update _ _).objs.size
    rw [Heap.size_update, Heap.size_push]
    exact Nat.le_succ _
  have g1 : s1.gens = s.gens := by rw [← hs1]
  have o1 : s1.os = s.os := by rw [← hs1]
  refine wpAny_bind (wpAny_newList ?_ hszl)
  have hoL : (s1.heap.push (seqObj "list" its.toArray 0)).get? s1.heap.objs.size = some (seqObj "list" its.toArray 0) := Heap.get?_push_size _ rfl
  have hk2 : ∀ b u, s.heap.get? b = some u → (s1.heap.push (seqObj "list" its.toArray 0)).get? b = some u := fun b u e => Heap.get?_push_of_some _ (k1 b u e)
  have e0 : PySem.W.EachIs (fun v (c : Int) => RelV (.int c) v) its xs := to_each (by
    have : ∀ {xs : List Int} {its : List Value}, Vals (xs.map V.int) its → Paired (fun v (c : Int) => RelV (.int c) v) its xs := by
      intro xs
      induction xs with
      | nil => intro its h; cases h; exact .nil
      | cons x r ih => intro its h; cases h with | cons a b => exact .cons a (ih b)
    exact this rv)
  have er : PySem.W.EachIs (fun v (c : Int) => ∃ as, Reads (s1.heap.push (seqObj "list" its.toArray 0)) v (Enc.d c) as ∧ s1.heap.objs.size ∉ as) its xs :=
    to_each (paired_map (each_to e0) fun v c h => ⟨[], by
      obtain ⟨tk, rfl⟩ := h
      exact .int _ _, List.not_mem_nil⟩)
  refine wpAny_bind (wpAny_holding (PySem.W.list_sort_data (s := { s1 with heap := s1.heap.push (seqObj "list" its.toArray 0) }) (R := fun v (c : Int) => RelV (.int c) v) (enc := Enc.d) hoL e0 er (PySem.W.AllAlike.of fun x y => EncO.alk x y)
    (.inr fun d hd => by
      obtain ⟨x, _, rfl⟩ := List.mem_map.mp hd
      exact ⟨EncO.nnn x, fun r z => by cases z⟩) (by rw [sizeLine_eq]; omega) (fun c _ => by
      have h1 : (Enc.d c).depth ≤ 0 := Enc.dle c
      show X.A.units + 1 + 1 + _ < _
      omega) fun out hol eo => ?_))
  rw [le_eq] at eo
  obtain ⟨c, hcc⟩ := sortedHeap_at (vs := its) (out := List.toArray out) hoL
  have hn : H s1.heap.objs.size = none := I.hok.fresh hz
  have h1 : Vals ((srt xs).map V.int) out := by
    have : ∀ {xs : List Int} {its : List Value}, Paired (fun v (c : Int) => RelV (.int c) v) its xs → Vals (xs.map V.int) its := by
      intro xs its h
      induction h with
      | nil => exact .nil
      | cons a _ ih => exact .cons a ih
    exact this (each_to eo)
  have hlen2 : ((srt xs).map V.int).length ≤ sizeLine := by
    rw [List.length_map, srt_len, sizeLine_eq]
    omega
  have k3 : ∀ b u, s.heap.get? b = some u → (sortedHeap (s1.heap.push (seqObj "list" its.toArray 0)) s1.heap.objs.size its (List.toArray out)).get? b = some u := fun b u e => by
    have q := k1 b u e
    have hlt := Heap.lt_size q
    rw [sortedHeap_old (Nat.ne_of_lt hlt) (by rw [size_push']; exact Nat.lt_succ_of_lt hlt)]
    exact Heap.get?_push_of_some _ q
  refine wpAny_pure ⟨_, rfl, ?_⟩
  have J := I.call (g' := s1.gens) (t' := s1.toks) (d' := s1.drawn) (ch := []) (Un.laid k3 hz hn) (I.hok.laid k3 hz (o := .lst ((srt xs).map V.int)) ⟨hlen2, out, c, h1, hcc⟩) (by rw [g1]; exact I.bare) (fun _ z => nomatch z)
  have e2 : ({ s1 with heap := sortedHeap (s1.heap.push (seqObj "list" its.toArray 0)) s1.heap.objs.size its (List.toArray out) } : Shared) = { s with heap := sortedHeap (s1.heap.push (seqObj "list" its.toArray 0)) s1.heap.objs.size its (List.toArray out), gens := s1.gens, drawn := s1.drawn, toks := s1.toks } := by
    cases s1
    cases s
    cases o1
    rfl
  show EP X pins t Q (.ref s1.heap.objs.size) { s1 with heap := sortedHeap (s1.heap.push (seqObj "list" its.toArray 0)) s1.heap.objs.size its (List.toArray out) }
  rw [e2]
  exact ⟨.ref _, _, J, rfl, q _ hn⟩
end
theorem en_sortU {s : TSt} {H : Hp} {ta : TE} {xs : List Int} (ha : EvP ta s H (en xs)) (hl : xs.length ≤ 1000) : EvN (tCB rSortU (tCons ta tNil)) s H (srt xs) := fun H1 e Q q =>
  ha H1 e _ fun v H2 e2 hv => ⟨xs, ⟨v, rfl, hv⟩, hl, fun p hp => q p _ (e2.back hp) (e2.tr (Ex.new hp)) ⟨_, upd_same, of_ints _⟩⟩
end TB
set_option Elab.async false
set_option linter.all false
set_option maxRecDepth 100000
set_option maxHeartbeats 2000000
/-! M5: orders that keep ties end alike. -/
namespace TB
/-- a square's fullness behind moves -/
def full (q : Bool) (c : Cell) (ms : List (Cell × Cell)) : Bool := ms.foldl (fun q m => if c = m.2 then true else if c = m.1 then false else q) q
theorem full_snoc (q : Bool) (c : Cell) (ms : List (Cell × Cell)) (m : Cell × Cell) : full q c (ms ++ [m]) = if c = m.2 then true else if c = m.1 then false else full q c ms := by simp [full, List.foldl_append]
theorem mem_endB {b : List Cell} {c : Cell} {ms : List (Cell × Cell)} : c ∈ endB b ms ↔ full (isIn b c) c ms = true := by
  induction ms using snocInd with
  | h0 => show c ∈ b ↔ decide (c ∈ b) = true; simp
  | h1 r x ih =>
    rw [endB_snoc, mem_done, full_snoc, ih]
    by_cases h1 : c = x.2
    · simp [h1]
    · rw [if_neg h1]
      by_cases h2 : c = x.1
      · rw [if_pos h2]
        simp [h2, h1]
        intro z
        exact h1 (by rw [h2, z])
      · rw [if_neg h2]
        simp [h1, h2]
def touch (c : Cell) (m : Cell × Cell) : Bool := decide (c = m.1) || decide (c = m.2)
theorem full_filter (q : Bool) (c : Cell) (ms : List (Cell × Cell)) : full q c (ms.filter (touch c)) = full q c ms := by
  induction ms using snocInd with
  | h0 => rfl
  | h1 r x ih =>
    rw [List.filter_append, full_snoc, List.filter_cons]
    by_cases h : touch c x = true
    · rw [if_pos h, List.filter_nil, full_snoc, ih]
    · rw [if_neg h, List.filter_nil, List.append_nil, ih]
      unfold touch at h
      simp only [Bool.or_eq_true, decide_eq_true_eq, not_or] at h
      rw [if_neg h.2, if_neg h.1]
theorem asc_eq {a b : List Nat} (ha : a.Pairwise (· < ·)) (hb : b.Pairwise (· < ·)) (h : ∀ x, x ∈ a ↔ x ∈ b) : a = b := by
  refine List.Perm.eq_of_pairwise (le := (· < ·)) (fun x y _ _ h1 h2 => absurd (Nat.lt_trans h1 h2) (Nat.lt_irrefl _)) ha hb (perm_nodup ?_ ?_ h)
  · exact ha.imp fun h e => by subst e; exact Nat.lt_irrefl _ h
  · exact hb.imp fun h e => by subst e; exact Nat.lt_irrefl _ h
/-- what stays whole without s -/
theorem hang_rest {B w : List Cell} {s : Cell} (hB : Hang B) (hs : s ∈ B) (hw : Hang w) (sub : ∀ x, x ∈ w → x ∈ rest B s) (near : ∀ z, z ∈ nbs s → z ∈ B → z ∈ w) : Hang (rest B s) := by
  obtain ⟨r, rr, e⟩ := ne_cons hw.1
  have hr : r ∈ w := by rw [e]; exact List.mem_cons_self
  have key : ∀ y, Reach (· ∈ B) s y → y = s ∨ Reach (· ∈ rest B s) r y := fun y h => by
    induction h with
    | refl _ => exact .inl rfl
    | @step y z h a st ih =>
      by_cases e : z = s
      · exact .inl e
      · right
        have hz : z ∈ rest B s := mem_rest.mpr ⟨st, e⟩
        rcases ih with q | q
        · subst q
          exact (hw.2 r hr z (near z a st)).wide sub
        · exact .step q a hz
  refine hang_of (sub r hr) fun x hx => ?_
  obtain ⟨h1, h2⟩ := mem_rest.mp hx
  exact (key x (hB.2 s hs x h1)).resolve_left h2
section
variable {b : List Cell} {pl : List (Cell × Cell)} {ps : List Paper} {order : List Int}
/-- the plan in that order -/
def inOrder (pl : List (Cell × Cell)) (order : List Int) : List (Cell × Cell) := order.map fun x => pl[x.toNat]?.getD ((0, 0), (0, 0))
theorem tie_of {i j : Nat} {x y : Paper} {c : Cell} (hi : ps[i]? = some x) (hj : ps[j]? = some y) (hij : i < j) (h : (c = x.s ∨ c = x.e) ∧ c ∈ cellsOf y ∨ (c = y.s ∨ c = y.e) ∧ c ∈ cellsOf x) : ((i : Int), (j : Int)) ∈ tiesP ps := by
  unfold tiesP
  rw [srt_mem, mem_found hi hj]
  refine ⟨(List.getElem?_eq_some_iff.mp hj).1, hij, ?_⟩
  unfold tied
  simp only [Bool.or_eq_true, memB_iff]
  rcases h with ⟨h | h, q⟩ | ⟨h | h, q⟩
  · rw [h] at q
    exact .inl (.inl q)
  · rw [h] at q
    exact .inl (.inr q)
  · rw [h] at q
    exact .inr (.inl q)
  · rw [h] at q
    exact .inr (.inr q)
theorem cells_s (p : Paper) : p.s ∈ cellsOf p := by simp [cellsOf]
theorem cells_e (p : Paper) : p.e ∈ cellsOf p := by simp [cellsOf]
theorem cells_n {p : Paper} {z : Cell} (h : z ∈ nbs p.s) : z ∈ cellsOf p := by simp [cellsOf, h]
theorem cells_u {p : Paper} {z : Cell} (h : z ∈ p.sup) : z ∈ cellsOf p := by simp [cellsOf, h]
theorem cells_w {p : Paper} {z : Cell} (h : z ∈ p.wit) : z ∈ cellsOf p := by simp [cellsOf, h]
/-- the indices that touch c, in the order, stand ascending -/
theorem asc_in (hp : IsPap b pl ps) (hk : Keeps ps order) (c : Cell) (t : Nat) : ((((order.map Int.toNat).take t).filter fun i => touch c (pl[i]?.getD ((0, 0), (0, 0)))).Pairwise (· < ·)) := by
  have hnd : (order.map Int.toNat).Nodup := by
    refine List.pairwise_map.mpr ((hk.perm.nodup_iff.mpr (rng_nd _)).imp_of_mem fun {x y} hx hy h e => h ?_)
    have h1 := (mem_rng.mp (hk.perm.mem_iff.mp hx)).1
    have h2 := (mem_rng.mp (hk.perm.mem_iff.mp hy)).1
    omega
  refine List.pairwise_iff_getElem.mpr fun u v hu hv huv => ?_
  have hsub : (((order.map Int.toNat).take t).filter fun i => touch c (pl[i]?.getD ((0, 0), (0, 0)))).Sublist (order.map Int.toNat) := List.filter_sublist.trans (List.take_sublist _ _)
  have hpw : ((order.map Int.toNat)).Pairwise (fun i j => touch c (pl[i]?.getD ((0, 0), (0, 0))) = true → touch c (pl[j]?.getD ((0, 0), (0, 0))) = true → i < j) := by
    refine List.pairwise_iff_getElem.mpr fun u v hu hv huv ti tj => ?_
    rw [List.length_map] at hu hv
    rw [List.getElem_map] at ti tj ⊢
    rw [List.getElem_map]
    have hxi := mem_rng.mp (hk.perm.mem_iff.mp (List.getElem_mem hu))
    have hxj := mem_rng.mp (hk.perm.mem_iff.mp (List.getElem_mem hv))
    have eu : order[u]? = some order[u] := List.getElem?_eq_getElem hu
    have ev : order[v]? = some order[v] := List.getElem?_eq_getElem hv
    generalize order[u] = x at *
    generalize order[v] = y at *
    obtain ⟨i, rfl⟩ : ∃ i : Nat, x = (i : Int) := ⟨x.toNat, by omega⟩
    obtain ⟨j, rfl⟩ : ∃ j : Nat, y = (j : Int) := ⟨y.toNat, by omega⟩
    rw [Int.toNat_natCast] at ti tj ⊢
    rw [Int.toNat_natCast]
    have hne : i ≠ j := fun e => by
      subst e
      have := nodup_at (hk.perm.nodup_iff.mpr (rng_nd _)) eu ev
      omega
    obtain ⟨px, hpx⟩ : ∃ p, ps[i]? = some p := ⟨_, List.getElem?_eq_getElem (by omega)⟩
    obtain ⟨py, hpy⟩ : ∃ p, ps[j]? = some p := ⟨_, List.getElem?_eq_getElem (by omega)⟩
    obtain ⟨mx, hmx⟩ : ∃ m, pl[i]? = some m := ⟨_, List.getElem?_eq_getElem (by have := hp.1; omega)⟩
    obtain ⟨my, hmy⟩ : ∃ m, pl[j]? = some m := ⟨_, List.getElem?_eq_getElem (by have := hp.1; omega)⟩
    have okx := hp.2 i mx px hmx hpx
    have oky := hp.2 j my py hmy hpy
    rw [hmx] at ti
    rw [hmy] at tj
    unfold touch at ti tj
    simp only [Option.getD_some, Bool.or_eq_true, decide_eq_true_eq] at ti tj
    rw [← okx.s, ← okx.e] at ti
    rw [← oky.s, ← oky.e] at tj
    rcases Nat.lt_or_ge i j with h | h
    · exact h
    · have hji : j < i := by omega
      have hc : c ∈ cellsOf px := by
        rcases ti with z | z
        · rw [z]
          exact cells_s px
        · rw [z]
          exact cells_e px
      have := hk.ties v u _ _ (tie_of hpy hpx hji (.inl ⟨tj, hc⟩)) ev eu
      omega
  have h1 := (hpw.sublist hsub)
  have h2 := List.pairwise_iff_getElem.mp h1 u v hu hv huv
  exact h2 (List.mem_filter.mp (List.getElem_mem hu)).2 (List.mem_filter.mp (List.getElem_mem hv)).2
theorem map_range_take (pl : List (Cell × Cell)) (k : Nat) (h : k ≤ pl.length) : pl.take k = (List.range k).map fun i => pl[i]?.getD ((0, 0), (0, 0)) := by
  refine List.ext_getElem? fun i => ?_
  rw [List.getElem?_take, List.getElem?_map]
  by_cases e : i < k
  · rw [if_pos e, List.getElem?_range e]
    obtain ⟨m, hm⟩ : ∃ m, pl[i]? = some m := ⟨_, List.getElem?_eq_getElem (by omega)⟩
    show pl[i]? = some (pl[i]?.getD _)
    rw [hm]
    rfl
  · rw [if_neg e, List.getElem?_eq_none (by simpa using e)]
    rfl
/-- what touches c comes in the same order -/
theorem same_full (hp : IsPap b pl ps) (hk : Keeps ps order) (c : Cell) (t k : Nat) (hkl : k ≤ pl.length) (h : ∀ i, i < pl.length → touch c (pl[i]?.getD ((0, 0), (0, 0))) = true → (i < k ↔ (i : Int) ∈ order.take t)) (q : Bool) :
    full q c ((inOrder pl order).take t) = full q c (pl.take k) := by
  rw [← full_filter q c ((inOrder pl order).take t), ← full_filter q c (pl.take k), map_range_take pl k hkl]
  have e1 : (inOrder pl order).take t = ((order.map Int.toNat).take t).map fun i => pl[i]?.getD ((0, 0), (0, 0)) := by
    unfold inOrder
    rw [← List.map_take, ← List.map_take, List.map_map]
    rfl
  rw [e1, List.filter_map, List.filter_map]
  congr 2
  refine asc_eq (asc_in hp hk c t) ((List.pairwise_lt_range).filter _) fun i => ?_
  rw [List.mem_filter, List.mem_filter, List.mem_range]
  show _ ∧ touch c (pl[i]?.getD ((0, 0), (0, 0))) = true ↔ _ ∧ touch c (pl[i]?.getD ((0, 0), (0, 0))) = true
  have hmem : i ∈ (order.map Int.toNat).take t ↔ i < pl.length ∧ (i : Int) ∈ order.take t := by
    rw [← List.map_take, List.mem_map]
    constructor
    · rintro ⟨x, hx, rfl⟩
      obtain ⟨h1, h2⟩ := mem_rng.mp (hk.perm.mem_iff.mp (List.mem_of_mem_take hx))
      have := hp.1
      exact ⟨by omega, by rw [Int.toNat_of_nonneg h1]; exact hx⟩
    · rintro ⟨_, hx⟩
      exact ⟨_, hx, Int.toNat_natCast i⟩
  rw [hmem]
  constructor
  · rintro ⟨⟨h1, h2⟩, h3⟩
    exact ⟨(h i h1 h3).mpr h2, h3⟩
  · rintro ⟨h1, h3⟩
    exact ⟨⟨by omega, (h i (by omega) h3).mp h1⟩, h3⟩
/-- at its turn a step finds what it read as it was -/
theorem reads_same (hp : IsPap b pl ps) (hk : Keeps ps order) {t k : Nat} (ht : order[t]? = some (k : Int)) {p : Paper} (hpk : ps[k]? = some p) {c : Cell} (hc : c ∈ cellsOf p) : isIn (endB b ((inOrder pl order).take t)) c = isIn (endB b (pl.take k)) c := by
  have hkl : k < pl.length := by
    have := (List.getElem?_eq_some_iff.mp hpk).1
    have := hp.1
    omega
  have hnd := hk.perm.nodup_iff.mpr (rng_nd ps.length)
  have key := same_full hp hk c t k (by omega) (fun i hi htc => ?_) (isIn b c)
  · unfold isIn
    rw [Bool.eq_iff_iff, decide_eq_true_iff, decide_eq_true_iff, mem_endB, mem_endB]
    rw [key]
  · obtain ⟨mi, hmi⟩ : ∃ m, pl[i]? = some m := ⟨_, List.getElem?_eq_getElem hi⟩
    obtain ⟨pi, hpi⟩ : ∃ p, ps[i]? = some p := ⟨_, List.getElem?_eq_getElem (by have := hp.1; omega)⟩
    have oki := hp.2 i mi pi hmi hpi
    rw [hmi] at htc
    unfold touch at htc
    simp only [Option.getD_some, Bool.or_eq_true, decide_eq_true_eq] at htc
    rw [← oki.s, ← oki.e] at htc
    have hio : (i : Int) ∈ order := hk.perm.mem_iff.mpr (mem_rng.mpr ⟨by omega, by have := hp.1; omega⟩)
    obtain ⟨a, ha, ea⟩ := List.getElem_of_mem hio
    have hat : order[a]? = some (i : Int) := by rw [List.getElem?_eq_getElem ha, ea]
    have hmt : (i : Int) ∈ order.take t ↔ a < t := by
      constructor
      · intro h
        obtain ⟨u, hu, eu⟩ := List.getElem_of_mem h
        rw [List.length_take] at hu
        rw [List.getElem_take] at eu
        have : order[u]? = some (i : Int) := by rw [List.getElem?_eq_getElem (by omega), eu]
        have := nodup_at hnd this hat
        omega
      · intro h
        refine List.mem_of_getElem? (i := a) ?_
        rw [List.getElem?_take, if_pos h]
        exact hat
    rw [hmt]
    rcases Nat.lt_trichotomy i k with h | h | h
    · have := hk.ties a t _ _ (tie_of hpi hpk h (.inl ⟨htc, hc⟩)) hat ht
      omega
    · subst h
      have := nodup_at hnd hat ht
      omega
    · have := hk.ties t a _ _ (tie_of hpk hpi h (.inr ⟨htc, hc⟩)) ht hat
      omega
theorem inOrder_len : (inOrder pl order).length = order.length := List.length_map _
theorem inOrder_at {t k : Nat} {m : Cell × Cell} (ht : order[t]? = some (k : Int)) (hm : pl[k]? = some m) : (inOrder pl order)[t]? = some m := by
  unfold inOrder
  rw [List.getElem?_map, ht]
  show some (pl[((k : Int)).toNat]?.getD _) = _
  rw [Int.toNat_natCast, hm]
  rfl
/-- in an order that keeps all ties every step is as good as it was -/
theorem order_ok (hb : Hang b) (hok : okPlan b pl = true) (hp : IsPap b pl ps) (hk : Keeps ps order) : ∀ t, okPlan b ((inOrder pl order).take t) = true
  | 0 => rfl
  | t + 1 => by
    have ih := order_ok hb hok hp hk t
    by_cases htl : t < order.length
    · obtain ⟨h1, h2⟩ := mem_rng.mp (hk.perm.mem_iff.mp (List.getElem_mem htl))
      obtain ⟨k, hkk⟩ : ∃ k : Nat, order[t] = (k : Int) := ⟨order[t].toNat, by omega⟩
      have ht : order[t]? = some (k : Int) := by rw [List.getElem?_eq_getElem htl, hkk]
      have hkl : k < ps.length := by omega
      obtain ⟨p, hpk⟩ : ∃ p, ps[k]? = some p := ⟨_, List.getElem?_eq_getElem hkl⟩
      obtain ⟨m, hm⟩ : ∃ m, pl[k]? = some m := ⟨_, List.getElem?_eq_getElem (by have := hp.1; omega)⟩
      have ok := hp.2 k m p hm hpk
      have hat := inOrder_at ht hm
      have e : (inOrder pl order).take (t + 1) = (inOrder pl order).take t ++ [m] := take_snoc hat
      rw [e, okPlan_snoc, ih, Bool.true_and, okMove_iff]
      have same := fun c (hc : c ∈ cellsOf p) => reads_same (b := b) hp hk ht hpk hc
      obtain ⟨r, hsup⟩ := ok.sup
      have hs1 : supp (isIn (endB b ((inOrder pl order).take t))) m.1 m.2 ≠ [] := supp_stay hsup (same _ (by rw [← ok.s]; exact cells_s p)) (same _ (by rw [← ok.e]; exact cells_e p)) (fun z hz => same z (cells_n (by rw [ok.s]; exact hz))) fun z hz => same z (cells_u hz)
      refine ⟨hs1, ?_⟩
      have iff : ∀ c, c ∈ cellsOf p → (c ∈ endB b ((inOrder pl order).take t) ↔ c ∈ endB b (pl.take k)) := fun c hc => by
        have := same c hc
        unfold isIn at this
        rw [Bool.eq_iff_iff, decide_eq_true_iff, decide_eq_true_iff] at this
        exact this
      refine hang_rest (endB_hang hb ih) (of_decide_eq_true (supp_in hs1).1) ok.wit.hang (fun x hx => ?_) fun z hz hzB => ?_
      · obtain ⟨h3, h4⟩ := mem_rest.mp (ok.wit.sub x hx)
        exact mem_rest.mpr ⟨(iff x (cells_w hx)).mpr h3, h4⟩
      · exact ok.wit.near z hz ((iff z (cells_n (by rw [ok.s]; exact hz))).mp hzB)
    · rw [List.take_of_length_le (by rw [inOrder_len]; omega)]
      rw [List.take_of_length_le (by rw [inOrder_len]; omega)] at ih
      exact ih
theorem endB_srt {b : List Cell} {pl : List (Cell × Cell)} (h : pl ≠ []) : (endB b pl).Pairwise (fun x y => le x y = true) := by
  have e := List.dropLast_concat_getLast h
  rw [← e, endB_snoc]
  exact srt_pw _
theorem order_all (hb : Hang b) (hn : b.Nodup) (hok : okPlan b pl = true) (hp : IsPap b pl ps) (hk : Keeps ps order) : okPlan b (inOrder pl order) = true ∧ endB b (inOrder pl order) = endB b pl := by
  have hol : order.length = pl.length := by rw [hk.perm.length_eq, rng_len, hp.1]
  have h1 : okPlan b (inOrder pl order) = true := by
    have := order_ok hb hok hp hk order.length
    rwa [List.take_of_length_le (by rw [inOrder_len]; exact Nat.le_refl _)] at this
  refine ⟨h1, ?_⟩
  have hmem : ∀ c, c ∈ endB b (inOrder pl order) ↔ c ∈ endB b pl := fun c => by
    have key := same_full hp hk c order.length pl.length (Nat.le_refl _) (fun i hi _ => ⟨fun _ => ?_, fun _ => hi⟩) (isIn b c)
    · rw [List.take_length, List.take_of_length_le (by rw [inOrder_len]; exact Nat.le_refl _)] at key
      rw [mem_endB, mem_endB, key]
    · rw [List.take_length]
      exact hk.perm.mem_iff.mpr (mem_rng.mpr ⟨by omega, by have := hp.1; omega⟩)
  by_cases e : pl = []
  · have e2 : order = [] := List.length_eq_zero_iff.mp (by rw [hol, e]; rfl)
    rw [e, e2]
    rfl
  · have e2 : inOrder pl order ≠ [] := fun z => e (List.length_eq_zero_iff.mp (by rw [← hol, ← inOrder_len (pl := pl), z]; rfl))
    exact List.Perm.eq_of_pairwise (le := fun x y => le x y = true) (fun x y _ _ => le_anti) (endB_srt e2) (endB_srt e) (perm_nodup (endB_nd hn h1) (endB_nd hn hok) hmem)
end
end TB
set_option Elab.async false
set_option linter.all false
set_option maxRecDepth 100000
set_option maxHeartbeats 2000000
/-! TI: dicts from ints to ints; what the law's end wants. -/
namespace TB
open PySem PySem.Spec PyProof.Rows L2
def kvI (p : Int × Int) : Key × V := (.inl p.1, .int p.2)
theorem valV_di (kvs : List (Int × Int)) (x : Int) : valV (kvs.map kvI) (.inl x : Key) = (dget kvs x).map V.int := by
  induction kvs with
  | nil => rfl
  | cons p r ih =>
    rw [List.map_cons, dget_cons]
    by_cases e : p.1 = x
    · rw [if_pos e, valV_pos (show (kvI p).1 = .inl x by rw [← e]; rfl)]
      rfl
    · rw [if_neg e, valV_neg (fun z => e (Sum.inl.inj (show (Sum.inl p.1 : Key) = .inl x from z)))]
      exact ih
theorem putK_di (kvs : List (Int × Int)) (x v : Int) : putK (kvs.map kvI) (.inl x : Key) (.int v) = (dput kvs x v).map kvI := by
  unfold putK dput
  rw [valV_any, any_dget, valV_di]
  cases hq : dget kvs x with
  | none =>
    simp only [Option.map_none, Option.isSome_none, Bool.false_eq_true, if_false, List.map_append]
    rfl
  | some u =>
    simp only [Option.map_some, Option.isSome_some, if_true, List.map_map]
    refine List.map_congr_left fun p _ => ?_
    show (if (kvI p).1 = (Sum.inl x : Key) then ((kvI p).1, V.int v) else kvI p) = kvI (if p.1 = x then (p.1, v) else p)
    by_cases e : p.1 = x
    · rw [if_pos e, if_pos (show (kvI p).1 = .inl x by rw [← e]; rfl)]
      rfl
    · have h : ¬ (kvI p).1 = (Sum.inl x : Key) := fun z => e (Sum.inl.inj (show (Sum.inl p.1 : Key) = .inl x from z))
      rw [if_neg e, if_neg h]
/-- the dict at d -/
def Di (H : Hp) (d : Addr) (kvs : List (Int × Int)) : Prop := H d = some (.dK (kvs.map kvI))
def dk (kvs : List (Int × Int)) : Pd := ⟨fun H v => ∃ d, v = .ref d ∧ Di H d kvs, fun e ⟨d, h1, h2⟩ => ⟨d, h1, e _ _ h2⟩⟩
section
variable {K : PySem.W.Frag} {s : TSt} {H : Hp} {ta tb td ty tv : TE} {D : Ends} {u : TS} {P1 P2 : Pd}
theorem ew_dictI : EvW tDNewK s H (dk []) := fun H1 e Q q d hd => q d _ hd (by rw [upd_same]; exact fun z => by cases z) (Ex.new hd) ⟨d, rfl, upd_same⟩
theorem ev_inI {x : Int} {kvs : List (Int × Int)} (hx : EvP ty s H (en x)) (hd : EvP td s H (dk kvs)) : EvP (tDIn ty td) s H (en (dget kvs x).isSome) := fun H1 e Q q =>
  hx H1 e _ fun v H2 e2 hv => hd H2 (e.tr e2) _ fun w H3 e3 ⟨d, ew, hd⟩ => by
    obtain rfl : v = .int x := hv
    refine ⟨d, _, ew, DGet.k (k := .inl x) hd, q _ H3 (e2.tr e3) ?_⟩
    rw [valV_di]
    cases dget kvs x <;> rfl
theorem ev_dgetI {x k : Int} {kvs : List (Int × Int)} (hd : EvP td s H (dk kvs)) (hx : EvP ty s H (en x)) (hk : dget kvs x = some k) : EvP (tDGet td ty) s H (en k) := fun H1 e Q q =>
  hd H1 e _ fun w H2 e2 hw => hx H2 (e.tr e2) _ fun v H3 e3 hv => by
    obtain ⟨d, rfl, hd⟩ := (dk kvs).up e3 hw
    obtain rfl : v = .int x := hv
    exact ⟨d, .int k, rfl, by rw [← (show (dget kvs x).map V.int = some (.int k) by rw [hk]; rfl), ← valV_di]; exact DGet.k (k := .inl x) hd, q _ H3 (e2.tr e3) rfl⟩
theorem s_putI {d : Addr} {x k : Int} {kvs : List (Int × Int)} (hk : Di H d kvs) (hv : EvP tv s H (en k)) (hd : EvP td s H (va (.ref d))) (hx : EvP ty s H (en x)) (hl : kvs.length < 1000000)
    (kk : ∀ H1, Ex H H1 → ∀ H2, Bt d H1 H2 → Di H2 d (dput kvs x k) → D.nx s H2) : sDPut td ty tv D s H := hv H Ex.same _ fun v H1 e1 hv => hd H1 e1 _ fun w H2 e2 hw => hx H2 (e1.tr e2) _ fun z H3 e3 hz => by
  obtain rfl : w = .ref d := hw
  obtain rfl : z = .int x := hz
  obtain rfl : v = .int k := hv
  have h3 : H3 d = some (.dK (kvs.map kvI)) := ((e1.tr e2).tr e3) _ _ hk
  refine ⟨d, _, rfl, DPut.k (k := .inl x) h3 (by rw [List.length_map]; exact sz_lt (by omega)), ?_⟩
  rw [putK_di]
  exact kk H3 ((e1.tr e2).tr e3) _ ⟨Tu.mutK h3, fun q hq => upd_ne hq⟩ upd_same
theorem en_keysI {kvs : List (Int × Int)} (hd : EvP td s H (dk kvs)) : EvN (tCB rListD (tCons td tNil)) s H (kvs.map (·.1)) := fun H1 e Q q =>
  hd H1 e _ fun w H2 e2 ⟨d, ew, hd⟩ => ⟨d, _, by rw [ew], hd, fun p hp => q p _ (e2.back hp) (e2.tr (Ex.new hp)) ⟨_, upd_same, by
    rw [List.map_map]
    have : ((fun kv : Key × V => kV kv.1) ∘ kvI) = fun p : Int × Int => V.int p.1 := rfl
    rw [this, show (kvs.map fun p : Int × Int => V.int p.1) = (kvs.map (·.1)).map V.int by rw [List.map_map]; rfl]
    exact of_ints _⟩⟩
/-- a, b = e, new (unpacked) -/
theorem q_asg2PW {i j : Nat} (ha : EvP ta s H P1) (hb : EvW tb s H P2) (k : ∀ v q H1, H q = none → Ex H H1 → P1.p H1 v → P2.p H1 (.ref q) → u D ((s.set i (some v)).set j (some (.ref q))) H1) : tSeq (tAsg (tTup (tCons ta (tCons tb tNil))) (gTup K 2 (gCons (gName i) (gCons (gName j) gNil)))) u D s H :=
  ha H Ex.same _ fun v H1 e1 h1 => hb H1 e1 _ fun q H2 n2 n2' e2 h2 => ⟨by show 2 ≤ sizeLine; decide, fun a na =>
    ⟨a, [v, .ref q], rfl, .inl (.inl upd_same), rfl, _, [.ref q], rfl, _, [], rfl, rfl, k v q _ (e1.back n2) ((e1.tr e2).tr (Ex.new na)) (P1.up (e2.tr (Ex.new na)) h1) (P2.up (Ex.new na) h2)⟩⟩
theorem ev_maxM {xs : List Int} (h : EvP ta s H (li xs)) {m : Int} (hm : m ∈ xs) (hall : ∀ y, y ∈ xs → y ≤ m) : EvP (tCB (rMax K) (tCons ta tNil)) s H (en m) := fun H1 e Q q =>
  h H1 e _ fun v H2 e2 ⟨l, ev, us, h1, h2⟩ => ⟨l, xs, by rw [ev], .inl (.inl (by rw [h1, ints_of h2])), List.length_pos_of_mem hm, fun k hk hk2 => q _ H2 e2 (by
    have a1 := hall k hk
    have a2 := hk2 m hm
    obtain rfl : k = m := by omega
    exact rfl)⟩
theorem ev_notNn {r : R2} (hr : r = fun x y H Q => y = .non ∧ Q (.bl (!decide (x = .non))) H) (ha : EvP ta s H nn) : EvP (tOp r ta (tC .non)) s H (en false) := fun H1 e Q q =>
  ha H1 e _ fun v H2 e2 hv => by
    obtain rfl : v = .non := hv
    subst hr
    exact ⟨rfl, q _ H2 e2 rfl⟩
theorem ev_isNn {r : R2} (hr : r = fun x y H Q => y = .non ∧ Q (.bl (decide (x = .non))) H) (ha : EvP ta s H nn) : EvP (tOp r ta (tC .non)) s H (en true) := fun H1 e Q q =>
  ha H1 e _ fun v H2 e2 hv => by
    obtain rfl : v = .non := hv
    subst hr
    exact ⟨rfl, q _ H2 e2 rfl⟩
end
theorem mem_tiesOf {ps : List Paper} {t : Int × Int} : t ∈ tiesOf ps ↔ t ∈ tiesP ps := by
  unfold tiesOf tiesP
  rw [srt_mem, List.mem_flatMap]
  constructor
  · rintro ⟨i, hi, h⟩
    obtain ⟨j, hj, rfl⟩ := List.mem_map.mp h
    obtain ⟨h1, h2⟩ := List.mem_filter.mp hj
    obtain ⟨a1, a2⟩ := mem_rng.mp hi
    obtain ⟨b1, b2⟩ := mem_rng.mp h1
    obtain ⟨i, rfl⟩ : ∃ n : Nat, i = (n : Int) := ⟨i.toNat, by omega⟩
    obtain ⟨j, rfl⟩ : ∃ n : Nat, j = (n : Int) := ⟨j.toNat, by omega⟩
    obtain ⟨x, hx⟩ : ∃ x, ps[i]? = some x := ⟨_, List.getElem?_eq_getElem (by omega)⟩
    obtain ⟨y, hy⟩ : ∃ y, ps[j]? = some y := ⟨_, List.getElem?_eq_getElem (by omega)⟩
    simp only [Int.toNat_natCast, hx, hy] at h2
    exact (mem_found hx hy _).mpr ⟨by omega, by omega, h2⟩
  · intro h
    obtain ⟨i, j, rfl, hij, hjl⟩ := found_rng _ h
    obtain ⟨x, hx⟩ : ∃ x, ps[i]? = some x := ⟨_, List.getElem?_eq_getElem (by omega)⟩
    obtain ⟨y, hy⟩ : ∃ y, ps[j]? = some y := ⟨_, List.getElem?_eq_getElem (by omega)⟩
    have h3 := ((mem_found hx hy _).mp h).2.2
    refine ⟨(i : Int), mem_rng.mpr ⟨by omega, by omega⟩, List.mem_map.mpr ⟨(j : Int), List.mem_filter.mpr ⟨mem_rng.mpr ⟨by omega, by omega⟩, ?_⟩, rfl⟩⟩
    simp only [Int.toNat_natCast, hx, hy]
    exact h3
theorem flat_lenM {α β : Type} {f : α → List β} {k : Nat} : ∀ xs : List α, (∀ x, x ∈ xs → (f x).length ≤ k) → (xs.flatMap f).length ≤ k * xs.length
  | [], _ => Nat.zero_le _
  | x :: r, h => by
    rw [List.flatMap_cons, List.length_append, List.length_cons]
    have h1 := h x List.mem_cons_self
    have h2 := flat_lenM r fun y hy => h y (List.mem_cons_of_mem _ hy)
    rw [Nat.mul_add]
    omega
theorem tiesOf_len (ps : List Paper) (h : ps.length ≤ 100) : (tiesOf ps).length ≤ 10000 := by
  unfold tiesOf
  refine Nat.le_trans (flat_lenM (k := ps.length) (rng 0 ps.length) (fun i hi => ?_) : _ ≤ ps.length * (rng 0 ps.length).length) ?_
  · rw [List.length_map]
    refine Nat.le_trans (List.length_filter_le _ _) ?_
    rw [rng_len]
    have := (mem_rng.mp hi).1
    omega
  · rw [rng_len]
    exact Nat.mul_le_mul h h
theorem okPlan_at {b : List Cell} {pl : List (Cell × Cell)} (h : okPlan b pl = true) {i : Nat} {m : Cell × Cell} (hm : pl[i]? = some m) : okMove (endB b (pl.take i)) m.1 m.2 = true := by
  have h1 : ∀ (pl r : List (Cell × Cell)) (b : List Cell), okPlan b (pl ++ r) = true → okPlan b pl = true := fun pl r => by
    induction r using snocInd with
    | h0 => intro b h; rwa [List.append_nil] at h
    | h1 r x ih =>
      intro b h
      rw [← List.append_assoc, okPlan_snoc, Bool.and_eq_true] at h
      exact ih b h.1
  have h2 := h1 (pl.take (i + 1)) (pl.drop (i + 1)) b (by rw [List.take_append_drop]; exact h)
  rw [take_snoc hm, okPlan_snoc, Bool.and_eq_true] at h2
  exact h2.2
/-- a number's round holds no more than what stands there -/
theorem srt_filter_rng (n : Nat) (p : Int → Bool) : srt ((rng 0 n).filter p) = (rng 0 n).filter p := srt_one (.refl _) ((rng_srt n).filter _)
end TB
set_option Elab.async false
set_option linter.all false
set_option maxRecDepth 100000
set_option maxHeartbeats 2000000
/-! TV: sorted of a tuple of data; in a tuple of data; del d[k] by tuples; while. -/
namespace TB
open PySem PySem.Spec PyProof.Rows L2
section
variable {X : Cx} {a : Type} [DecidableEq a] [Enc a] [EncO a]
/-- sorted(t), t a tuple of data -/
def rSortUE (a : Type) [DecidableEq a] [Enc a] [EncO a] : List V → Hp → VK → Prop := fun vs H Q => ∃ (v : V) (xs : List a), vs = [v] ∧ Enc.r H v xs ∧ xs.length ≤ 1000 ∧ ((∀ x ∈ xs, ∃ y r, Enc.d x = .tuple (y :: r)) ∨ ∀ x ∈ xs, ∀ r, Enc.d x ≠ .tuple r) ∧
  ∀ (us : List V) (p : Addr), Paired (Enc.r H) us (srt xs) → H p = none → Q (.ref p) (upd H p (.lst us))
theorem cr_sortUE (hd : Enc.dep a ≤ 60) (hu : X.A.units + 64 < cLine) : CallR X (.builtin "sorted") (rSortUE a) := by
  intro pins s t H vs us Q I r ⟨v, xs, ev, ⟨ad, ws, ev2, ha, hw⟩, hxl, ht, q⟩
  subst ev
  subst ev2
  obtain ⟨its, rv, ⟨o, ho, hc, n, hd'⟩, hlen⟩ := I.tuple (.inl (.inl ha))
  rw [Vals.ref1 r]
  have hits : its.length = xs.length := by rw [← rv.length, hw.length]
  have hszl : its.length ≤ sizeLine := by
    rw [hits, sizeLine_eq]
    omega
  have hk : PySem.W.Sortable (xs.map Enc.d) := by
    rcases ht with h | h
    · left
      intro d hd
      obtain ⟨x, hx, rfl⟩ := List.mem_map.mp hd
      exact h x hx
    · right
      intro d hd
      obtain ⟨x, hx, rfl⟩ := List.mem_map.mp hd
      exact ⟨EncO.nnn x, h x hx⟩
  refine Calls.call_function_entry PyProof.Rows.kind_sorted PyProof.Rows.plain_sorted PyProof.Rows.entry_sorted (PyProof.Rows.args_sorted1 _) ?_
  unfold Builtin.«sorted»
  refine wpAny_bind (m := checkCount "sorted" 1 1 _) (wpAny_pure ?_)
  refine wpAny_bind (collect_tup ho hc hd' ?_ hszl)
  generalize hs1 : ({ s with heap := (s.heap.push (seqObj "list" #[] 0)).update s.heap.objs.size (Obj.mapSeq (· ++ its.toArray)) } : Shared) = s1
  have k1 : ∀ b u, s.heap.get? b = some u → s1.heap.get? b = some u := fun b u e => by
    rw [← hs1]
    show ((s.heap.push _).update _ _).get? b = some u
    rw [Heap.get?_update_ne _ _ _ _ (Nat.ne_of_lt (Heap.lt_size e))]
    exact Heap.get?_push_of_some _ e
  have hz : s.heap.objs.size ≤ s1.heap.objs.size := by
    rw [← hs1]
    show _ ≤ ((s.heap.push _).update _ _).objs.size
    rw [Heap.size_update, Heap.size_push]
    exact Nat.le_succ _
  have g1 : s1.gens = s.gens := by rw [← hs1]
  have o1 : s1.os = s.os := by rw [← hs1]
  refine wpAny_bind (wpAny_newList ?_ hszl)
  have hoL : (s1.heap.push (seqObj "list" its.toArray 0)).get? s1.heap.objs.size = some (seqObj "list" its.toArray 0) := Heap.get?_push_size _ rfl
  have hk2 : ∀ b u, s.heap.get? b = some u → (s1.heap.push (seqObj "list" its.toArray 0)).get? b = some u := fun b u e => Heap.get?_push_of_some _ (k1 b u e)
  have er : PySem.W.EachIs (fun v (c : a) => ∃ as, Reads (s1.heap.push (seqObj "list" its.toArray 0)) v (Enc.d c) as ∧ s1.heap.objs.size ∉ as) its xs :=
    to_each (paired_map (each_to (each_reads I rv hw)) fun v c ⟨as, h⟩ => ⟨as, PyProof.Rows.Reads.keeps hk2 h, fun z => by
      obtain ⟨o, ho⟩ := PyProof.On.reads_mem_get h _ z
      exact absurd (Heap.lt_size ho) (Nat.not_lt.mpr hz)⟩)
  refine wpAny_bind (wpAny_holding (PySem.W.list_sort_data (s := { s1 with heap := s1.heap.push (seqObj "list" its.toArray 0) }) (R := fun v (c : a) => ∃ u, RelV u v ∧ Enc.r H u c) (enc := Enc.d) hoL (each_of rv hw) er (PySem.W.AllAlike.of fun x y => EncO.alk x y) hk (by rw [sizeLine_eq]; omega) (fun c _ => by
      have h1 : (Enc.d c).depth ≤ Enc.dep a := Enc.dle c
      show X.A.units + 1 + 1 + _ < _
      omega) fun out hol eo => ?_))
  rw [le_eq] at eo
  obtain ⟨us', h1, h2⟩ := vals_of eo
  obtain ⟨c, hcc⟩ := sortedHeap_at (vs := its) (out := List.toArray out) hoL
  have hn : H s1.heap.objs.size = none := I.hok.fresh hz
  have hlen2 : us'.length ≤ sizeLine := by
    have h3 : (xs.mergeSort le).length = xs.length := srt_len xs
    rw [h2.length, h3, sizeLine_eq]
    omega
  have k3 : ∀ b u, s.heap.get? b = some u → (sortedHeap (s1.heap.push (seqObj "list" its.toArray 0)) s1.heap.objs.size its (List.toArray out)).get? b = some u := fun b u e => by
    have q := k1 b u e
    have hlt := Heap.lt_size q
    rw [sortedHeap_old (Nat.ne_of_lt hlt) (by rw [size_push']; exact Nat.lt_succ_of_lt hlt)]
    exact Heap.get?_push_of_some _ q
  refine wpAny_pure ⟨_, rfl, ?_⟩
  have J := I.call (g' := s1.gens) (t' := s1.toks) (d' := s1.drawn) (ch := []) (Un.laid k3 hz hn) (I.hok.laid k3 hz (o := .lst us') ⟨hlen2, out, c, h1, hcc⟩) (by rw [g1]; exact I.bare) (fun _ z => nomatch z)
  have e2 : ({ s1 with heap := sortedHeap (s1.heap.push (seqObj "list" its.toArray 0)) s1.heap.objs.size its (List.toArray out) } : Shared) = { s with heap := sortedHeap (s1.heap.push (seqObj "list" its.toArray 0)) s1.heap.objs.size its (List.toArray out), gens := s1.gens, drawn := s1.drawn, toks := s1.toks } := by
    cases s1
    cases s
    cases o1
    rfl
  show EP X pins t Q (.ref s1.heap.objs.size) { s1 with heap := sortedHeap (s1.heap.push (seqObj "list" its.toArray 0)) s1.heap.objs.size its (List.toArray out) }
  rw [e2]
  exact ⟨.ref _, _, J, rfl, q us' _ h2 hn⟩
end
section
variable {K : PySem.W.Frag} {s : TSt} {H : Hp} {ta tb : TE} {a : Type} [DecidableEq a] [Enc a]
theorem en_sortUE [EncO a] {xs : List a} (ha : EvP ta s H (en xs)) (hl : xs.length ≤ 1000) (ht : (∀ x ∈ xs, ∃ y r, Enc.d x = .tuple (y :: r)) ∨ ∀ x ∈ xs, ∀ r, Enc.d x ≠ .tuple r) : EvN (tCB (rSortUE a) (tCons ta tNil)) s H (srt xs) := fun H1 e Q q =>
  ha H1 e _ fun v H2 e2 hv => ⟨v, xs, rfl, hv, hl, ht, fun us p hu hp => q p _ (e2.back hp) (e2.tr (Ex.new hp)) ⟨_, upd_same, paired_map hu fun _ _ z => en_up (Ex.new hp) z⟩⟩
/-- x in t, t a tuple of data -/
theorem ev_inU {x : a} {xs : List a} (ha : EvP ta s H (en x)) (hb : EvP tb s H (en xs)) (hd : Enc.dep a + 1 ≤ 64 := by decide) : EvP (tOp (rInU K) ta tb) s H (en (memB x xs)) := fun H1 e Q q =>
  ha H1 e _ fun v H2 e2 hv => hb H2 (e.tr e2) _ fun w H3 e3 hw => ⟨_, _, Enc.dp K (en_up e3 hv), Enc.dp K (x := xs) hw, shaped_en x (by omega), shaped_en xs hd, q _ H3 (e2.tr e3) (by
    rw [any_eqv]
    exact rfl)⟩
theorem ev_niU {x : a} {xs : List a} (ha : EvP ta s H (en x)) (hb : EvP tb s H (en xs)) (hd : Enc.dep a + 1 ≤ 64 := by decide) : EvP (tOp (rNotInU K) ta tb) s H (en (!memB x xs)) := fun H1 e Q q =>
  ha H1 e _ fun v H2 e2 hv => hb H2 (e.tr e2) _ fun w H3 e3 hw => ⟨_, _, Enc.dp K (en_up e3 hv), Enc.dp K (x := xs) hw, shaped_en x (by omega), shaped_en xs hd, q _ H3 (e2.tr e3) (by
    rw [any_eqv]
    exact rfl)⟩
end
end TB
set_option Elab.async false
set_option linter.all false
set_option maxRecDepth 100000
set_option maxHeartbeats 2000000
/-! TW: del d[k] by tuples; while; todo.pop(). -/
namespace TB
open PySem PySem.Spec PyProof.Rows L2
section
variable {X : Cx}
theorem ps_del1 {o i : Expr} {td ty : TE} {tpos pos : Pos} (hu : X.A.units + 1 < cLine) (ho : PE X o td) (hi : PE X i ty) : PS X (.Delete [.Subscript o i tpos] pos) (sDel1 td ty) := by
  refine ⟨fun pins s t H D I h => ?_⟩
  refine wpAny_Delete (wpAny_deleteEach_cons (wpAny_delete_Subscript (thn (ho.run pins s t H _ I h) fun u s1 ⟨x, H1, I1, rx, q1⟩ => thn (hi.run pins s1 t H1 _ I1 q1) fun iv s2 ⟨y, H2, I2, ry, a, kvs, k, b, ex, ha, ey, hb, hv, q2⟩ => ?_)))
  subst ex
  subst ey
  obtain rfl : u = Value.ref a := rx
  obtain rfl : iv = Value.ref b := ry
  obtain ⟨v, hv⟩ := Option.isSome_iff_exists.mp hv
  obtain ⟨z, hd, ys, rel, dd⟩ := dt_of I2.hok ha
  obtain ⟨p, hp, rp⟩ := at_of_val rel hv
  have hz : ys.length ≤ sizeLine := by rw [← Paired.length rel]; exact z
  refine wpAny_delItem_heap (hsz := hz) (tupleKind_room_in1 hu) (key_of I2.hok hb) hd dd hp fun h' dd' hs => ?_
  exact wpAny_deleteEach_nil ⟨t, _, dt_less I2 ha rel z hd dd' hs, q2⟩
end
section
variable {K : PySem.W.Frag} {s : TSt} {H : Hp} {ta td ty : TE} {tt : TT} {D : Ends} {u tu : TS} {β α : Type} [DecidableEq β] [Enc β] [DecidableEq α] [Enc α]
theorem s_del {d : Addr} {c : Cell} {kvs : List (Cell × β)} (hk : Dc H d kvs) (hd : EvP td s H (va (.ref d))) (hc : EvP ty s H (en c)) (hin : (dget kvs c).isSome = true) (k : ∀ H1, Ex H H1 → ∀ H2, Bt d H1 H2 → Dc H2 d (ddel kvs c) → D.nx s H2) : sDel1 td ty D s H :=
  hd H Ex.same _ fun w H1 e1 hw => hc H1 e1 _ fun z H2 e2 hz => by
    obtain rfl : w = .ref d := hw
    obtain ⟨us, h1, h2⟩ := hk.up (e1.tr e2)
    obtain ⟨b, eb, hb⟩ := cell_at hz
    subst eb
    have t := Tu.mutT (o := .dT (dropK us (ck c))) h1
    exact ⟨d, us, ck c, b, rfl, h1, rfl, hb, by rw [val_some h2 c]; exact hin, k H2 (e1.tr e2) _ ⟨t, fun q hq => upd_ne hq⟩ ⟨_, upd_same, paired_map (del_of h2 c) fun _ _ z => ⟨z.1, Enc.mono t z.2⟩⟩⟩
theorem q_del {d : Addr} {c : Cell} {kvs : List (Cell × β)} (hk : Dc H d kvs) (hd : EvP td s H (va (.ref d))) (hc : EvP ty s H (en c)) (hin : (dget kvs c).isSome = true) (k : ∀ H1, Ex H H1 → ∀ H2, Bt d H1 H2 → Dc H2 d (ddel kvs c) → u D s H2) : tSeq (sDel1 td ty) u D s H := s_del hk hd hc hin k
/-- x = xs.pop() -/
theorem q_popL {i : Nat} {l : Addr} {xs : List α} {x : α} (hl : Ls H l (xs ++ [x])) (ha : EvP ta s H (va (.ref l))) (k : ∀ v H1 H2, Ex H H1 → Bt l H1 H2 → En H2 v x → Ls H2 l xs → u D (s.set i (some v)) H2) : tSeq (tAsg (tBM K "list" rPop ta tNil) (gName i)) u D s H :=
  ha H Ex.same _ fun w H1 e1 hw => by
    obtain rfl : w = .ref l := hw
    obtain ⟨us, h1, h2⟩ := hl.up e1
    have hn : us.length = xs.length + 1 := by rw [h2.length, List.length_append]; rfl
    have hx : (xs ++ [x])[us.length - 1]? = some x := by
      rw [hn, Nat.add_sub_cancel, List.getElem?_append_right (Nat.le_refl _), Nat.sub_self]
      rfl
    obtain ⟨y, hy, hr⟩ := paired_get h2 hx
    have t := Tu.mutL (o := .lst us.dropLast) h1
    refine ⟨.inl ⟨rfl, us, .inl (.inl h1)⟩, l, us, y, rfl, rfl, h1, hy, ?_⟩
    refine k y H1 _ e1 ⟨t, fun q hq => upd_ne hq⟩ (Enc.mono t hr) ⟨us.dropLast, upd_same, ?_⟩
    have hd := paired_take h2 (us.length - 1)
    rw [← List.dropLast_eq_take, hn, Nat.add_sub_cancel, List.take_left] at hd
    exact paired_map hd fun _ _ z => Enc.mono t z
/-- while c: by a measure -/
theorem q_while (W : Nat → TSt → Hp → Prop) {m0 : Nat} (h0 : W m0 s H) (h : ∀ m s' H', W m s' H' → ∃ b, EvB tt s' H' b ∧ (b = true → ∀ H1, Ex H' H1 → tu { D with nx := fun s2 H2 => ∃ m', m' < m ∧ W m' s2 H2, ct := fun s2 H2 => ∃ m', m' < m ∧ W m' s2 H2, bk := u D } s' H1) ∧ (b = false → ∀ H1, Ex H' H1 → u D s' H1)) : tSeq (tWhile tt tu) u D s H :=
  ⟨W, ⟨m0, h0⟩, fun m s' H' w => by
    obtain ⟨b, hb, h1, h2⟩ := h m s' H' w
    refine hb H' Ex.same _ fun H1 e1 => ?_
    cases b with
    | true => exact ⟨fun s2 H2 => ∃ m', m' < m ∧ W m' s2 H2, fun s2 H2 n => n, h1 rfl H1 e1⟩
    | false => exact h2 rfl H1 e1⟩
end
end TB
set_option Elab.async false
set_option linter.all false
set_option maxRecDepth 100000
set_option maxHeartbeats 2000000
/-! D30: the part of a square, the parts. -/
namespace TB
open PySem PySem.Spec PyProof.Rows L2
section
variable {K : PySem.W.Frag} {s : TSt} {H : Hp} {ta te : TE} {D : Ends} {α : Type} [DecidableEq α] [Enc α]
theorem eb_truL {q : Addr} {xs : List α} (h : Ls H q xs) (ha : EvP ta s H (va (.ref q))) : EvB (fun s H Q => ta s H fun x H' => ∃ k, TruV K x H' k ∧ Q k H') s H (!xs.isEmpty) := fun H1 e Q q' => ha H1 e _ fun v H2 e2 hv => by
  obtain rfl : v = .ref q := hv
  obtain ⟨us, h1, h2⟩ := h.up (e.tr e2)
  refine ⟨_, .inl ⟨us, .inl (.inl h1), rfl⟩, ?_⟩
  have : us.isEmpty = xs.isEmpty := by cases h2 <;> rfl
  rw [this]
  exact q' H2 e2
/-- xs.append(e), where e changes other things -/
theorem s_appI {l : Addr} (ha : EvP ta s H (va (.ref l))) {us0 : List V} (hl : H l = some (.lst us0)) (h : ∀ H1, Ex H H1 → ∀ Q : VK, (∀ w H2 (x : α) (xs : List α), Ls H2 l xs → En H2 w x → xs.length < 1000000 → (∀ H3, Bt l H2 H3 → Ls H3 l (xs ++ [x]) → D.nx s H3) → Q w H2) → te s H1 Q) : tDrop (tBM K "list" rAppend ta (tCons te tNil)) D s H := ha H Ex.same _ fun v H1 e1 hv => by
  obtain rfl : v = .ref l := hv
  refine ⟨.inl ⟨rfl, us0, .inl (.inl (e1 _ _ hl))⟩, h H1 e1 _ fun w H2 x xs hls hw hz k => ?_⟩
  obtain ⟨us, g1, g2⟩ := hls
  have t := Tu.mutL (o := .lst (us ++ [w])) g1
  exact ⟨l, us, w, rfl, rfl, g1, by rw [g2.length]; exact sz_lt (Nat.le_of_lt hz), k _ ⟨t, fun q hq => upd_ne hq⟩ ⟨_, upd_same, paired_app (paired_map g2 fun _ _ z => Enc.mono t z) (.cons (Enc.mono t hw) .nil)⟩⟩
end
theorem Gr.perm {L0 : Cell → Prop} {c0 : Cell} {a b : List Cell} {m : List (Cell × Bool)} {B : Nat} (G : Gr L0 c0 a m B) (p : a.Perm b) : Gr L0 c0 b m B where
  nd := p.nodup_iff.mp G.nd
  inn := p.mem_iff.mp G.inn
  reach y hy := G.reach y (p.mem_iff.mpr hy)
  left y := by rw [G.left y, p.mem_iff]
  len := G.len
section
variable {P : Program} {w : World} {K : PySem.W.Frag} {mg : Str → Option Value} {base : Heap}
abbrev s_taken_part : Stmt := topS 12
abbrev n_taken_part : List Str := ["left", "cell", "found", "todo", "one", "other"]
theorem sc_taken_part : FnScope n_taken_part ["left", "cell"] (defScope s_taken_part) := ⟨rfl, rfl, rfl, by decide +kernel, rfl, by decide +kernel, by decide +kernel⟩
def spTaken : Sp := fun vs H Q _ => ∃ (d : Addr) (v : V) (c : Cell) (m : List (Cell × Bool)), vs = [.ref d, v] ∧ Dc H d m ∧ En H v c ∧ (dget m c).isSome = true ∧ m.length ≤ 1000 ∧
  ∀ u H' part m', Mv [d] H H' → Dc H' d m' → En H' u (srt part) → Gr (fun y => (dget m y).isSome = true) c part m' 1000 → (∀ y, y ∈ part → ∀ z, z ∈ nbs y → (dget m z).isSome = true → z ∈ part) → Q u H'
theorem ok_taken (T : Txt K mg "taken_part" "taken_part" s_taken_part ["left", "cell"]) (Z : Blt mg) (C_beside : Cal P w K mg base 4 "beside" ["cell"] spBeside) : Cal P w K mg base 5 "taken_part" ["left", "cell"] spTaken :=
  T.cal sc_taken_part (fun vs H Q E ⟨_, _, _, _, e, _⟩ => by subst e; rfl) fun f cdv A outer s H vs Q E hr h => by
    obtain ⟨d, v, c, m, rfl, hD, hv, hin, hml, q⟩ := h
    refine ⟨_, (pss_cons (ps_del1 (ru1 hr) (pv 0) (pv 1))
      (pss_cons (ps_par (i := 2) (j := 3) rfl sc_taken_part.nd rfl rfl (by decide) rfl rfl (pa_cons (pe_lst pa_nil) (pa_cons (pe_lst (pa_cons (pv 1) pa_nil)) pa_nil)) (by rfl))
      (pss_cons (ps_while PassesOwn.never (pt_truth (pv 3) (by intro _; rfl)) (pss_cons (ps_set (i := 4) sc_taken_part.nd rfl (Or.inl rfl) (pe_bm0 PySem.F.plainAttrs_list PySem.F.slot_list_pop PySem.F.type_list_pop mt_pop (pv 3)))
      (pss_cons (ps_expr (pe_bm PySem.F.plainAttrs_list PySem.F.slot_list_append PySem.F.type_list_append mt_append (pv 2) (pa_cons (pv 4) pa_nil)))
      (pss_one (ps_for PassesOwn.never rfl (pi_tup (pe_cal C_beside (hr.mono (by decide)) (pa_cons (pv 4) pa_nil))) (pg_name (i := 5) sc_taken_part.nd rfl (Or.inl rfl)) (pss_one (ps_if (pt_cmp ((pc_din (ru1 hr)) (pv 5) (pv 0))) (pss_cons (ps_del1 (ru1 hr) (pv 0) (pv 5))
      (pss_one (ps_expr (pe_bm PySem.F.plainAttrs_list PySem.F.slot_list_append PySem.F.type_list_append mt_append (pv 3) (pa_cons (pv 5) pa_nil))))) pss_nil)))))))
      (pss_one (ps_ret (pe_callTy call_tuple_of (by rfl) Z.tuple (by decide +kernel) (pa_cons (pe_callB (cr_sortE (a := Cell) (by decide) (ru64 hr)) (by rfl) Z.sorted (by decide +kernel) (pa_cons (pv 2) pa_nil)) pa_nil))))))), ?_⟩
    refine q_del hD (ev_vr rfl) (ev_var rfl hv) hin fun H1 e1 H2 b2 hm2 => ?_
    have mv2 : Mv [d] H H2 := (Mv.same.ex e1).but b2 (.inl List.mem_cons_self)
    refine q_parWW (en_nil (α := Cell)).w (en_lst (xs := [c]) (ea_cons (ev_var rfl (en_mv hv mv2)) ea_nil)).w fun p t H3 hp ht hpt e3 hF hT => ?_
    replace hF := li_at hF
    replace hT := li_at hT
    have mv3 := mv2.ex e3
    have hpd : p ≠ d := (hm2.ne_new hp).symm
    have htd : t ≠ d := (hm2.ne_new ht).symm
    have hp0 : H p = none := mv2.back (mem1 hpd) hp
    have ht0 : H t = none := mv2.back (mem1 htd) ht
    refine q_while (fun n s' H' => ∃ u4 u5 found todo m', s' = [some (.ref d), some v, some (.ref p), some (.ref t), u4, u5] ∧ Mv [d] H H' ∧ Dc H' d m' ∧ Ls H' p found ∧ Ls H' t todo ∧ Gr (fun y => (dget m y).isSome = true) c (found ++ todo) m' 1000 ∧
      (∀ y, y ∈ found → ∀ z, z ∈ nbs y → (dget m z).isSome = true → z ∈ found ++ todo) ∧ n = m.length - found.length) (m0 := m.length) ⟨_, _, [], [c], _, rfl, mv3, hm2.up e3, hF, hT, Gr.start (fun _ => Iff.rfl) hin hml, (fun y hy => by cases hy), rfl⟩
      fun n s' H' ⟨u4, u5, found, todo, m', es, mv, hm, hF, hT, G, hcl, en'⟩ => ?_
    subst es
    refine ⟨!todo.isEmpty, eb_truL hT (ev_vr rfl), fun hb H4 e4 => ?_, fun hb H4 e4 => ?_⟩
    · have hne : todo ≠ [] := fun z => by rw [z] at hb; cases hb
      obtain ⟨tt, x, rfl⟩ : ∃ tt x, todo = tt ++ [x] := ⟨_, _, (List.dropLast_concat_getLast hne).symm⟩
      have hlen : ∀ {part : List Cell} {m2}, Gr (fun y => (dget m y).isSome = true) c part m2 1000 → part.length ≤ m.length := fun G => by
        have := nodup_len (ys := m.map (·.1)) G.nd fun y hy => dget_some.mp (G.reach y hy).dst
        rwa [List.length_map] at this
      have G' := G.perm (b := (found ++ [x]) ++ tt) (by
        rw [List.append_assoc]
        exact List.Perm.append_left _ (List.perm_append_comm))
      refine q_popL (hT.up e4) (ev_vr rfl) fun w5 H5 H6 e5 b6 hw hT6 => ?_
      have mv6 : Mv [d] H H6 := ((mv.ex e4).ex e5).but b6 (.inr ht0)
      refine q_app (((hF.up e4).up e5).but hpt b6) (ev_vr rfl) (ev_var rfl hw) (by
        have := hlen G'
        rw [List.length_append, List.length_append] at this
        omega) fun H7 e7 H8 b8 hF8 => ?_
      have mv8 : Mv [d] H H8 := (mv6.ex e7).but b8 (.inr hp0)
      have hm8 : Dc H8 d m' := ((((hm.up e4).up e5).but htd.symm b6).up e7).but hpd.symm b8
      have hT8 : Ls H8 t tt := (hT6.up e7).but hpt.symm b8
      refine s_forT (xs := nbs x) (ev_c1 (P1 := en x) (ea_cons (ev_var rfl (Enc.mono b8.tu (en_up e7 hw))) ea_nil) ⟨x, rfl, rfl⟩) fun H9 e9 => ⟨fun j s2 H' => ∃ u5 t2 m2, s2 = [some (.ref d), some v, some (.ref p), some (.ref t), some w5, u5] ∧ Mv [d, t] H9 H' ∧ Dc H' d m2 ∧ Ls H' p (found ++ [x]) ∧ Ls H' t t2 ∧ Gr (fun y => (dget m y).isSome = true) c ((found ++ [x]) ++ t2) m2 1000 ∧
          (∃ r, t2 = tt ++ r) ∧ ∀ z, z ∈ (nbs x).take j → (dget m z).isSome = true → z ∈ (found ++ [x]) ++ t2,
        ⟨_, tt, m', rfl, Mv.same, hm8.up e9, hF8.up e9, hT8.up e9, G', ⟨[], by simp⟩, fun z hz => by simp at hz⟩, fun j s2 H' ⟨_, _, _, _, mm, _⟩ => mm.tu, fun j z u s2 H' hz hu ⟨v5, t2, m2, es, mv2', hm2', hF2, hT2, G2, ⟨r, hr⟩, hc2⟩ => ?_, fun s2 H' ⟨v5, t2, m2, es, mv2', hm2', hF2, hT2, G2, ⟨r, hr⟩, hc2⟩ => ?_⟩
      · subst es
        refine s_ifN (eb_test (ev_inD (ev_var rfl hu) (ev_ds rfl hm2'))) (fun hin2 H12 e12 => ?_) fun hout2 H12 e12 => ?_
        · refine q_del (hm2'.up e12) (ev_vr rfl) (ev_var rfl (en_up e12 hu)) hin2 fun H13 e13 H14 b14 hm3 => ?_
          refine s_app' (x := z) ((hT2.up (e12.tr e13)).but htd b14) (ev_vr rfl) (ev_var rfl (Enc.mono b14.tu (en_up (e12.tr e13) hu))) (by
            have := hlen G2
            rw [List.length_append] at this
            omega) fun H15 e15 H16 b16 hT3 => ?_
          refine ⟨_, t2 ++ [z], ddel m2 z, rfl, ((((mv2'.ex e12).ex e13).but b14 (.inl List.mem_cons_self)).ex e15).but b16 (.inl (List.mem_cons_of_mem _ List.mem_cons_self)), (hm3.up e15).but htd.symm b16, ((((hF2.up e12).up e13).but hpd b14).up e15).but hpt b16, hT3, ?_, ⟨r ++ [z], ?_⟩, fun y hy hl => ?_⟩
          · rw [← List.append_assoc]
            exact G2.more (y := x) (by simp) (List.mem_of_getElem? hz) hin2
          · rw [hr, List.append_assoc]
          · rw [← List.append_assoc]
            rw [take_snoc hz] at hy
            rcases List.mem_append.mp hy with h | h
            · exact List.mem_append_left _ (hc2 y h hl)
            · exact List.mem_append_right _ h
        · refine ⟨_, t2, m2, rfl, mv2'.ex e12, hm2'.up e12, hF2.up e12, hT2.up e12, G2, ⟨r, hr⟩, fun y hy hl => ?_⟩
          rw [take_snoc hz] at hy
          rcases List.mem_append.mp hy with h | h
          · exact hc2 y h hl
          · rw [List.mem_singleton.mp h] at hl ⊢
            refine Classical.byContradiction fun hn => ?_
            rw [(G2.left z).mpr ⟨hl, hn⟩] at hout2
            cases hout2
      · subst es
        rw [show List.take (nbs x).length (nbs x) = nbs x from List.take_length] at hc2
        have h1 := hlen G2
        rw [List.length_append, List.length_append] at h1
        refine ⟨m.length - (found ++ [x]).length, ?_, _, _, found ++ [x], t2, m2, rfl, (mv8.ex e9).trw mv2' fun a ha => ?_, hm2', hF2, hT2, G2, fun y hy z hz hl => ?_, rfl⟩
        · rw [en', List.length_append]
          simp only [List.length_singleton] at h1 ⊢
          omega
        · rcases List.mem_cons.mp ha with h | h
          · exact .inl (by rw [h]; exact List.mem_cons_self)
          · rw [List.mem_singleton.mp h]
            exact .inr ht0
        · rcases List.mem_append.mp hy with h | h
          · have := hcl y h z hz hl
            rw [hr]
            simp only [List.mem_append, List.mem_singleton] at this ⊢
            rcases this with a | a | a
            · exact .inl (.inl a)
            · exact .inr (.inl a)
            · exact .inl (.inr a)
          · rw [List.mem_singleton.mp h] at hz
            exact hc2 z hz hl
    · have he : todo = [] := by cases todo with
        | nil => rfl
        | cons a b => cases hb
      subst he
      rw [List.append_nil] at G hcl
      exact s_ret (ev_tupleL rfl (en_sort (ev_li rfl (hF.up e4)) (.inl fun x _ => ⟨_, _, rfl⟩)).li) fun u H5 e5 hu => q u H5 found m' ((mv.ex e4).ex e5) ((hm.up e4).up e5) hu G hcl
end
end TB
set_option Elab.async false
set_option linter.all false
set_option maxRecDepth 100000
set_option maxHeartbeats 2000000
/-! D31: the parts; hangs, free, squares of the code. -/
namespace TB
open PySem PySem.Spec PyProof.Rows L2
section
variable {K : PySem.W.Frag} {s : TSt} {H : Hp} {tl tk tv : TE}
/-- {c: v for c in xs}, xs a tuple of cells -/
theorem ew_dcT {i : Nat} {vs : List Nat} {xs : List Cell} (h : EvP tl s H (en xs)) (hl : xs.length ≤ 1000) (hk : ∀ (u : V) H', EvP tk ((wipe s vs).set i (some u)) H' (va u)) (hv : ∀ (u : V) H', EvP tv ((wipe s vs).set i (some u)) H' (va (.bl true)))
    (hw : ∀ u, wipe ((wipe s vs).set i (some u)) vs = wipe s vs := by intro u; rfl) : EvW (tCc (fun _ => .dT []) (iTup K tl) (gName i) tYes (tbDict tk tv) vs) s H (ds (dall xs)) := fun H1 e Q q =>
  h H1 e _ fun v H2 e2 ⟨a, us, ev, ha, hp⟩ => by
    subst ev
    refine ⟨a, rfl, ⟨us, .inl (.inl ha)⟩, fun D hD => ?_⟩
    refine ⟨fun i m H' => m = us.length - i ∧ i ≤ us.length ∧ Ex H2 H' ∧ Dc (β := Bool) H' D (dall (xs.take i)), ⟨us.length, by simp, Nat.zero_le _, Ex.new hD, [], upd_same, .nil⟩, fun i m H' ⟨em, hi, eX, hDs⟩ => ?_⟩
    subst em
    by_cases hlt : i < us.length
    · refine .inr ⟨⟨us, us[i], .inl (.inl (eX _ _ ha)), by simp [hlt]⟩, fun H' => Ex H2 H' ∧ Dc (β := Bool) H' D (dall (xs.take (i + 1))), fun H' N => ⟨us.length - (i + 1), by omega, rfl, hlt, N⟩, fun x H' y => ?_⟩
      obtain ⟨rfl, y⟩ := y
      have hx : us[i]? = some x := y us (.inl (.inl (eX _ _ ha)))
      obtain ⟨c, hc, hr⟩ := paired_getL hp hx
      refine ⟨hw _, ?_⟩
      refine raw_yes ?_
      refine hk x _ _ Ex.same _ fun v H4 e4 hv1 => hv x H4 H4 Ex.same _ fun z H5 e5 hz => ?_
      obtain rfl : v = x := hv1
      obtain rfl : z = .bl true := hz
      obtain ⟨b, eb, hb⟩ := cell_at (en_up ((eX.tr e4).tr e5) hr)
      subst eb
      obtain ⟨ws, h1, h2⟩ := hDs.up (e4.tr e5)
      have t := Tu.mutT (o := .dT (putK ws (ck c) (.bl true))) h1
      refine ⟨b, _, ws, rfl, hb, h1, by
        rw [h2.length]
        have z1 := dall_len (xs.take i)
        have z2 := List.length_take_le' i xs
        exact sz_lt (by omega), ((eX.tr e4).tr e5).mut hD, ?_⟩
      rw [take_snoc hc, dall_snoc]
      exact ⟨_, upd_same, paired_map (put_of h2 c rfl) fun _ _ z => ⟨z.1, Enc.mono t z.2⟩⟩
    · have hi' : i = us.length := by omega
      subst hi'
      rw [hp.length, List.take_length] at hDs
      exact .inl ⟨⟨us, .inl (.inl (eX _ _ ha)), Nat.le_refl _⟩, q D H' (e2.back hD) hDs.nn (e2.tr eX) ⟨D, rfl, hDs⟩⟩
/-- {c: v for c in xs}, xs a list of cells -/
theorem ew_dcL {i : Nat} {vs : List Nat} {xs : List Cell} (h : EvP tl s H (li xs)) (hl : xs.length ≤ 1000) (hk : ∀ (u : V) H', EvP tk ((wipe s vs).set i (some u)) H' (va u)) (hv : ∀ (u : V) H', EvP tv ((wipe s vs).set i (some u)) H' (va (.bl true)))
    (hw : ∀ u, wipe ((wipe s vs).set i (some u)) vs = wipe s vs := by intro u; rfl) : EvW (tCc (fun _ => .dT []) (iList K tl) (gName i) tYes (tbDict tk tv) vs) s H (ds (dall xs)) := fun H1 e Q q =>
  h H1 e _ fun v H2 e2 ⟨a, ev, us, ha, hp⟩ => by
    subst ev
    refine ⟨a, rfl, ⟨us, .inl (.inl ha)⟩, fun D hD => ?_⟩
    refine ⟨fun i m H' => m = us.length - i ∧ i ≤ us.length ∧ Ex H2 H' ∧ Dc (β := Bool) H' D (dall (xs.take i)), ⟨us.length, by simp, Nat.zero_le _, Ex.new hD, [], upd_same, .nil⟩, fun i m H' ⟨em, hi, eX, hDs⟩ => ?_⟩
    subst em
    by_cases hlt : i < us.length
    · refine .inr ⟨⟨us, us[i], .inl (.inl (eX _ _ ha)), by simp [hlt]⟩, fun H' => Ex H2 H' ∧ Dc (β := Bool) H' D (dall (xs.take (i + 1))), fun H' N => ⟨us.length - (i + 1), by omega, rfl, hlt, N⟩, fun x H' y => ?_⟩
      obtain ⟨rfl, y⟩ := y
      have hx : us[i]? = some x := y us (.inl (.inl (eX _ _ ha)))
      obtain ⟨c, hc, hr⟩ := paired_getL hp hx
      refine ⟨hw _, ?_⟩
      refine raw_yes ?_
      refine hk x _ _ Ex.same _ fun v H4 e4 hv1 => hv x H4 H4 Ex.same _ fun z H5 e5 hz => ?_
      obtain rfl : v = x := hv1
      obtain rfl : z = .bl true := hz
      obtain ⟨b, eb, hb⟩ := cell_at (en_up ((eX.tr e4).tr e5) hr)
      subst eb
      obtain ⟨ws, h1, h2⟩ := hDs.up (e4.tr e5)
      have t := Tu.mutT (o := .dT (putK ws (ck c) (.bl true))) h1
      refine ⟨b, _, ws, rfl, hb, h1, by
        rw [h2.length]
        have z1 := dall_len (xs.take i)
        have z2 := List.length_take_le' i xs
        exact sz_lt (by omega), ((eX.tr e4).tr e5).mut hD, ?_⟩
      rw [take_snoc hc, dall_snoc]
      exact ⟨_, upd_same, paired_map (put_of h2 c rfl) fun _ _ z => ⟨z.1, Enc.mono t z.2⟩⟩
    · have hi' : i = us.length := by omega
      subst hi'
      rw [hp.length, List.take_length] at hDs
      exact .inl ⟨⟨us, .inl (.inl (eX _ _ ha)), Nat.le_refl _⟩, q D H' (e2.back hD) hDs.nn (e2.tr eX) ⟨D, rfl, hDs⟩⟩
theorem s_retW {te : TE} {D : Ends} {P : Pd} (h : EvW te s H P) (k : ∀ p H1, H p = none → H1 p ≠ none → Ex H H1 → P.p H1 (.ref p) → D.rt (.ref p) H1) : tRet te D s H := h H Ex.same _ k
end
section
variable {P : Program} {w : World} {K : PySem.W.Frag} {mg : Str → Option Value} {base : Heap}
abbrev s_squares_of : Stmt := topS 19
abbrev n_squares_of : List Str := ["body", "cell"]
theorem sc_squares_of : FnScope n_squares_of ["body"] (defScope s_squares_of) := ⟨rfl, rfl, rfl, by decide +kernel, rfl, by decide +kernel, by decide +kernel⟩
theorem ok_squares_of (T : Txt K mg "squares_of" "squares_of" s_squares_of ["body"]) (Z : Blt mg) : Cal P w K mg base 1 "squares_of" ["body"] spSquares :=
  T.cal sc_squares_of S1W.len fun f cdv A outer s H vs Q E hr h => by
    obtain ⟨v, P1, Pz, rfl, ⟨body, hP, hlen, rfl⟩, hv, q⟩ := h
    rcases hP with rfl | rfl
    · refine ⟨_, (pss_one (ps_ret (pe_dcT (own := [("cell", 1)]) (g := gName 1) (tt := tYes) rfl (ru64 hr) sc_squares_of.nd (pi_tup (pv 0)) (blkOk_by (N := n_squares_of) (sc := defScope s_squares_of) (by decide +kernel)) (fun _ _ _ _ _ => (pg_name (i := 1) sc_squares_of.nd rfl (Or.inl rfl))) (fun _ _ _ _ _ => pts_nil) (fun _ _ _ _ _ => (pv 1)) (fun _ _ _ _ _ => pe_bl)))), ?_⟩
      exact s_retW (ew_dcT (ev_var rfl hv) hlen (fun u H' => ev_var rfl rfl) fun u H' => ev_bl) fun p H1 n n' e h => q p H1 n n' e h
    · refine ⟨_, (pss_one (ps_ret (pe_dcT (own := [("cell", 1)]) (g := gName 1) (tt := tYes) rfl (ru64 hr) sc_squares_of.nd (pi_list (pv 0)) (blkOk_by (N := n_squares_of) (sc := defScope s_squares_of) (by decide +kernel)) (fun _ _ _ _ _ => (pg_name (i := 1) sc_squares_of.nd rfl (Or.inl rfl))) (fun _ _ _ _ _ => pts_nil) (fun _ _ _ _ _ => (pv 1)) (fun _ _ _ _ _ => pe_bl)))), ?_⟩
      exact s_retW (ew_dcL (ev_var rfl hv) hlen (fun u H' => ev_var rfl rfl) fun u H' => ev_bl) fun p H1 n n' e h => q p H1 n n' e h
abbrev s_parts_of : Stmt := topS 13
abbrev n_parts_of : List Str := ["cells", "cell", "left", "found"]
theorem sc_parts_of : FnScope n_parts_of ["cells"] (defScope s_parts_of) := ⟨rfl, rfl, rfl, by decide +kernel, rfl, by decide +kernel, by decide +kernel⟩
def spPartsC : Sp := S1 fun P1 Pz => ∃ cells : List Cell, (P1 = en cells ∨ P1 = li cells) ∧ cells.length ≤ 1000 ∧ Pz = enX fun pts : List (List Cell) => pts.length = 1 ↔ Hang cells
theorem ok_parts_of (T : Txt K mg "parts_of" "parts_of" s_parts_of ["cells"]) (Z : Blt mg) (C_check_cell : Cal P w K mg base 3 "check_cell" ["value"] spCheckCell) (C_taken_part : Cal P w K mg base 5 "taken_part" ["left", "cell"] spTaken) : Cal P w K mg base 6 "parts_of" ["cells"] spPartsC :=
  T.cal sc_parts_of S1.len fun f cdv A outer s H vs Q E hr h => by
    obtain ⟨v, P1, Pz, rfl, ⟨cells, hP, hlen, rfl⟩, hv, q⟩ := h
    rcases hP with rfl | rfl
    · refine ⟨_, (pss_cons (ps_for PassesOwn.never rfl (pi_tup (pv 0)) (pg_name (i := 1) sc_parts_of.nd rfl (Or.inl rfl)) (pss_one (ps_expr (pe_cal C_check_cell (hr.mono (by decide)) (pa_cons (pv 1) pa_nil)))))
      (pss_cons (ps_par (i := 2) (j := 3) rfl sc_parts_of.nd rfl rfl (by decide) rfl rfl (pa_cons (pe_dcT (own := [("cell", 1)]) (g := gName 1) (tt := tYes) rfl (ru64 hr) sc_parts_of.nd (pi_tup (pv 0)) (blkOk_by (N := n_parts_of) (sc := defScope s_parts_of) (by decide +kernel)) (fun _ _ _ _ _ => (pg_name (i := 1) sc_parts_of.nd rfl (Or.inl rfl))) (fun _ _ _ _ _ => pts_nil) (fun _ _ _ _ _ => (pv 1)) (fun _ _ _ _ _ => pe_bl)) (pa_cons (pe_lst pa_nil) pa_nil)) (by rfl))
      (pss_cons (ps_for PassesOwn.never rfl (pi_list (pe_callB (cr_sortE (a := Cell) (by decide) (ru64 hr)) (by rfl) Z.sorted (by decide +kernel) (pa_cons (pe_callTy (call_list_dT rfl) (by rfl) Z.list (by decide +kernel) (pa_cons (pv 2) pa_nil)) pa_nil))) (pg_name (i := 1) sc_parts_of.nd rfl (Or.inl rfl)) (pss_one (ps_if (pt_cmp ((pc_din (ru1 hr)) (pv 1) (pv 2))) (pss_one (ps_expr (pe_bm PySem.F.plainAttrs_list PySem.F.slot_list_append PySem.F.type_list_append mt_append (pv 3) (pa_cons (pe_cal C_taken_part (hr.mono (by decide)) (pa_cons (pv 2) (pa_cons (pv 1) pa_nil))) pa_nil)))) pss_nil)))
      (pss_one (ps_ret (pe_callTy call_tuple_of (by rfl) Z.tuple (by decide +kernel) (pa_cons (pv 3) pa_nil))))))), ?_⟩
      refine q_forT (ev_var rfl hv) fun H1 e1 => ⟨fun i s' H' => ∃ v1, s' = [some v, v1, none, none] ∧ Ex H1 H', ⟨_, rfl, Ex.same⟩, fun i s' H' ⟨_, _, e⟩ => e.tu, fun i x u s' H' hx hu ⟨v1, es, e⟩ => ?_, fun s' H2 ⟨v1, es, e⟩ => ?_⟩
      · subst es
        exact s_drop (P := nn) (ev_c1 (P1 := en x) (ea_cons (ev_var rfl hu) ea_nil) ⟨_, rfl, rfl⟩) fun H3 e3 => ⟨_, rfl, e.tr e3⟩
      · subst es
        have e02 : Ex H H2 := e1.tr e
        refine q_parWW (ew_dcT (ev_var rfl ((en cells).up e02 hv)) hlen (fun u H' => ev_var rfl rfl) fun u H' => ev_bl) (en_nil (α := List Cell)).w fun d p H3 hd hp hdp e3 hD hL => ?_
        replace hD := ds_at hD
        replace hL := li_at hL
        have hd0 : H d = none := e02.back hd
        have hp0 : H p = none := e02.back hp
        have e03 : Ex H H3 := e02.tr e3
        refine q_forN [d, p] (xs := srt ((dall cells).map (·.1))) (en_sort (en_keys rfl (ev_ds rfl hD)).li (.inl fun x _ => ⟨_, _, rfl⟩)) (nn2 hD.nn hL.nn) fun H4 e4 => ⟨fun i s' H' => ∃ v1, s' = [some v, v1, some (.ref d), some (.ref p)] ∧ Mv [d, p] H4 H' ∧
          ∃ (m : List (Cell × Bool)) (pts : List (List Cell)), Dc H' d m ∧ Ls H' p pts ∧ PInv cells (fun x => (dget m x).isSome = true) pts.length ∧ (∀ x, x ∈ (srt ((dall cells).map (·.1))).take i → dget m x = none) ∧ m.length ≤ 1000 ∧ pts.length ≤ i,
          ⟨_, rfl, Mv.same, dall cells, [], hD.up e4, hL.up e4, PInv.start fun x => dall_mem, fun x hx => by simp at hx, Nat.le_trans (dall_len cells) hlen, Nat.le_refl _⟩, fun i s' H' ⟨_, _, m, _⟩ => m, fun i x v' s' H' hx hv' ⟨v1, es, mv, m, pts, hm, hpts, I, hno, hml, hpl⟩ => ?_, fun s' H' ⟨v1, es, mv, m, pts, hm, hpts, I, hno, hml, hpl⟩ => ?_⟩
        · subst es
          refine s_ifN (eb_test (ev_inD (ev_var rfl hv') (ev_ds rfl hm))) (fun hin H5 e5 => ?_) fun hout H5 e5 => ?_
          · have hpts5 := hpts.up e5
            obtain ⟨us0, hus, _⟩ := id hpts5
            refine s_appI (α := List Cell) (l := p) (ev_vr rfl) hus fun H6 e6 Q' q' => ?_
            have mv6 : Mv [d, p] H4 H6 := (mv.ex e5).ex e6
            refine (ea_cons (ev_vr (p := d) rfl) (ea_cons (ev_var rfl (en_up (e5.tr e6) hv')) ea_nil) : EvA _ _ H6 [va (.ref d), en x]) H6 Ex.same _ fun vs H7 e7 hvs => ?_
            obtain ⟨w1, w2, rfl, hw1, hw2⟩ := al2 hvs
            obtain rfl : w1 = .ref d := hw1
            refine ⟨d, w2, x, m, rfl, ((hm.up e5).up e6).up e7, hw2, hin, hml, fun u H8 part m' mv8 hm8 hu G hcl => ?_⟩
            have hpts8 : Ls H8 p pts := ((hpts5.up e6).up e7).mv (mem1 hdp.symm) mv8
            refine q' u H8 (srt part) pts hpts8 hu (by
              have h1 := (List.getElem?_eq_some_iff.mp hx).1
              rw [srt_len, List.length_map] at h1
              have h2 := dall_len cells
              omega) fun H9 b9 hpts9 => ?_
            refine ⟨_, rfl, ((mv6.ex e7).trw mv8 fun a ha => .inl (by rw [List.mem_singleton.mp ha]; exact List.mem_cons_self)).but b9 (.inl (List.mem_cons_of_mem _ List.mem_cons_self)), m', pts ++ [srt part], hm8.but hdp b9, hpts9, ?_, fun y hy => ?_, G.len, ?_⟩
            · rw [List.length_append]
              exact I.next hin G.inn G.reach hcl G.left
            · rw [take_snoc hx] at hy
              cases hz : dget m' y with
              | none => rfl
              | some b =>
                have h1 := (G.left y).mp (by rw [hz]; rfl)
                rcases List.mem_append.mp hy with h2 | h2
                · have := hno y h2
                  rw [this] at h1
                  cases h1.1
                · rw [List.mem_singleton.mp h2] at h1
                  exact absurd G.inn h1.2
            · rw [List.length_append]
              exact Nat.succ_le_succ hpl
          · refine ⟨_, rfl, mv.ex e5, m, pts, hm.up e5, hpts.up e5, I, fun y hy => ?_, hml, Nat.le_succ_of_le hpl⟩
            rw [take_snoc hx] at hy
            rcases List.mem_append.mp hy with h | h
            · exact hno y h
            · rw [List.mem_singleton.mp h]
              cases hz : dget m x with
              | none => rfl
              | some b =>
                rw [hz] at hout
                cases hout
        · subst es
          rw [List.take_length] at hno
          refine s_ret (ev_tupleL rfl (ev_li rfl hpts)) fun v H5 e5 hv => ?_
          refine q v H5 (((e03.tr e4).mv mv (no2 hd0 hp0)).tr e5) ⟨pts, I.done fun x hx => ?_, hv⟩
          rw [hno x (srt_mem.mpr (dall_keys.mpr hx))]
          exact Bool.false_ne_true
    · refine ⟨_, (pss_cons (ps_for PassesOwn.never rfl (pi_list (pv 0)) (pg_name (i := 1) sc_parts_of.nd rfl (Or.inl rfl)) (pss_one (ps_expr (pe_cal C_check_cell (hr.mono (by decide)) (pa_cons (pv 1) pa_nil)))))
      (pss_cons (ps_par (i := 2) (j := 3) rfl sc_parts_of.nd rfl rfl (by decide) rfl rfl (pa_cons (pe_dcT (own := [("cell", 1)]) (g := gName 1) (tt := tYes) rfl (ru64 hr) sc_parts_of.nd (pi_list (pv 0)) (blkOk_by (N := n_parts_of) (sc := defScope s_parts_of) (by decide +kernel)) (fun _ _ _ _ _ => (pg_name (i := 1) sc_parts_of.nd rfl (Or.inl rfl))) (fun _ _ _ _ _ => pts_nil) (fun _ _ _ _ _ => (pv 1)) (fun _ _ _ _ _ => pe_bl)) (pa_cons (pe_lst pa_nil) pa_nil)) (by rfl))
      (pss_cons (ps_for PassesOwn.never rfl (pi_list (pe_callB (cr_sortE (a := Cell) (by decide) (ru64 hr)) (by rfl) Z.sorted (by decide +kernel) (pa_cons (pe_callTy (call_list_dT rfl) (by rfl) Z.list (by decide +kernel) (pa_cons (pv 2) pa_nil)) pa_nil))) (pg_name (i := 1) sc_parts_of.nd rfl (Or.inl rfl)) (pss_one (ps_if (pt_cmp ((pc_din (ru1 hr)) (pv 1) (pv 2))) (pss_one (ps_expr (pe_bm PySem.F.plainAttrs_list PySem.F.slot_list_append PySem.F.type_list_append mt_append (pv 3) (pa_cons (pe_cal C_taken_part (hr.mono (by decide)) (pa_cons (pv 2) (pa_cons (pv 1) pa_nil))) pa_nil)))) pss_nil)))
      (pss_one (ps_ret (pe_callTy call_tuple_of (by rfl) Z.tuple (by decide +kernel) (pa_cons (pv 3) pa_nil))))))), ?_⟩
      refine q_forL (ev_var rfl hv) fun H1 pp us e1 hpp hus => ⟨fun i s' H' => ∃ v1, s' = [some v, v1, none, none] ∧ Ex H1 H', ⟨_, rfl, Ex.same⟩, fun i s' H' ⟨_, _, e⟩ => ⟨e.tu, e _ _ hpp⟩, fun i x u s' H' hx hu ⟨v1, es, e⟩ => ?_, fun s' H2 ⟨v1, es, e⟩ => ?_⟩
      · subst es
        exact s_drop (P := nn) (ev_c1 (P1 := en x) (ea_cons (ev_var rfl hu) ea_nil) ⟨_, rfl, rfl⟩) fun H3 e3 => ⟨_, rfl, e.tr e3⟩
      · subst es
        have e02 : Ex H H2 := e1.tr e
        refine q_parWW (ew_dcL (ev_var rfl ((li cells).up e02 hv)) hlen (fun u H' => ev_var rfl rfl) fun u H' => ev_bl) (en_nil (α := List Cell)).w fun d p H3 hd hp hdp e3 hD hL => ?_
        replace hD := ds_at hD
        replace hL := li_at hL
        have hd0 : H d = none := e02.back hd
        have hp0 : H p = none := e02.back hp
        have e03 : Ex H H3 := e02.tr e3
        refine q_forN [d, p] (xs := srt ((dall cells).map (·.1))) (en_sort (en_keys rfl (ev_ds rfl hD)).li (.inl fun x _ => ⟨_, _, rfl⟩)) (nn2 hD.nn hL.nn) fun H4 e4 => ⟨fun i s' H' => ∃ v1, s' = [some v, v1, some (.ref d), some (.ref p)] ∧ Mv [d, p] H4 H' ∧
          ∃ (m : List (Cell × Bool)) (pts : List (List Cell)), Dc H' d m ∧ Ls H' p pts ∧ PInv cells (fun x => (dget m x).isSome = true) pts.length ∧ (∀ x, x ∈ (srt ((dall cells).map (·.1))).take i → dget m x = none) ∧ m.length ≤ 1000 ∧ pts.length ≤ i,
          ⟨_, rfl, Mv.same, dall cells, [], hD.up e4, hL.up e4, PInv.start fun x => dall_mem, fun x hx => by simp at hx, Nat.le_trans (dall_len cells) hlen, Nat.le_refl _⟩, fun i s' H' ⟨_, _, m, _⟩ => m, fun i x v' s' H' hx hv' ⟨v1, es, mv, m, pts, hm, hpts, I, hno, hml, hpl⟩ => ?_, fun s' H' ⟨v1, es, mv, m, pts, hm, hpts, I, hno, hml, hpl⟩ => ?_⟩
        · subst es
          refine s_ifN (eb_test (ev_inD (ev_var rfl hv') (ev_ds rfl hm))) (fun hin H5 e5 => ?_) fun hout H5 e5 => ?_
          · have hpts5 := hpts.up e5
            obtain ⟨us0, hus, _⟩ := id hpts5
            refine s_appI (α := List Cell) (l := p) (ev_vr rfl) hus fun H6 e6 Q' q' => ?_
            have mv6 : Mv [d, p] H4 H6 := (mv.ex e5).ex e6
            refine (ea_cons (ev_vr (p := d) rfl) (ea_cons (ev_var rfl (en_up (e5.tr e6) hv')) ea_nil) : EvA _ _ H6 [va (.ref d), en x]) H6 Ex.same _ fun vs H7 e7 hvs => ?_
            obtain ⟨w1, w2, rfl, hw1, hw2⟩ := al2 hvs
            obtain rfl : w1 = .ref d := hw1
            refine ⟨d, w2, x, m, rfl, ((hm.up e5).up e6).up e7, hw2, hin, hml, fun u H8 part m' mv8 hm8 hu G hcl => ?_⟩
            have hpts8 : Ls H8 p pts := ((hpts5.up e6).up e7).mv (mem1 hdp.symm) mv8
            refine q' u H8 (srt part) pts hpts8 hu (by
              have h1 := (List.getElem?_eq_some_iff.mp hx).1
              rw [srt_len, List.length_map] at h1
              have h2 := dall_len cells
              omega) fun H9 b9 hpts9 => ?_
            refine ⟨_, rfl, ((mv6.ex e7).trw mv8 fun a ha => .inl (by rw [List.mem_singleton.mp ha]; exact List.mem_cons_self)).but b9 (.inl (List.mem_cons_of_mem _ List.mem_cons_self)), m', pts ++ [srt part], hm8.but hdp b9, hpts9, ?_, fun y hy => ?_, G.len, ?_⟩
            · rw [List.length_append]
              exact I.next hin G.inn G.reach hcl G.left
            · rw [take_snoc hx] at hy
              cases hz : dget m' y with
              | none => rfl
              | some b =>
                have h1 := (G.left y).mp (by rw [hz]; rfl)
                rcases List.mem_append.mp hy with h2 | h2
                · have := hno y h2
                  rw [this] at h1
                  cases h1.1
                · rw [List.mem_singleton.mp h2] at h1
                  exact absurd G.inn h1.2
            · rw [List.length_append]
              exact Nat.succ_le_succ hpl
          · refine ⟨_, rfl, mv.ex e5, m, pts, hm.up e5, hpts.up e5, I, fun y hy => ?_, hml, Nat.le_succ_of_le hpl⟩
            rw [take_snoc hx] at hy
            rcases List.mem_append.mp hy with h | h
            · exact hno y h
            · rw [List.mem_singleton.mp h]
              cases hz : dget m x with
              | none => rfl
              | some b =>
                rw [hz] at hout
                cases hout
        · subst es
          rw [List.take_length] at hno
          refine s_ret (ev_tupleL rfl (ev_li rfl hpts)) fun v H5 e5 hv => ?_
          refine q v H5 (((e03.tr e4).mv mv (no2 hd0 hp0)).tr e5) ⟨pts, I.done fun x hx => ?_, hv⟩
          rw [hno x (srt_mem.mpr (dall_keys.mpr hx))]
          exact Bool.false_ne_true
end
end TB
set_option Elab.async false
set_option linter.all false
set_option maxRecDepth 100000
set_option maxHeartbeats 2000000
/-! D32: hangs, is_free of the code. -/
namespace TB
open PySem PySem.Spec PyProof.Rows L2
section
variable {P : Program} {w : World} {K : PySem.W.Frag} {mg : Str → Option Value} {base : Heap}
abbrev s_hangs : Stmt := topS 14
abbrev n_hangs : List Str := ["cells"]
theorem sc_hangs : FnScope n_hangs ["cells"] (defScope s_hangs) := ⟨rfl, rfl, rfl, by decide +kernel, rfl, by decide +kernel, by decide +kernel⟩
def spHangsC : Sp := S1 fun P1 Pz => ∃ cells : List Cell, (P1 = en cells ∨ P1 = li cells) ∧ cells.length ≤ 1000 ∧ Pz = en (hangB cells)
theorem ok_hangs (T : Txt K mg "hangs" "hangs" s_hangs ["cells"]) (Z : Blt mg) (C_parts_of : Cal P w K mg base 6 "parts_of" ["cells"] spPartsC) : Cal P w K mg base 7 "hangs" ["cells"] spHangsC :=
  T.cal sc_hangs S1.len fun f cdv A outer s H vs Q E hr h => by
    obtain ⟨v, P1, Pz, rfl, ⟨cells, hP, hlen, rfl⟩, hv, q⟩ := h
    refine ⟨_, (pss_one (ps_ret (pe_cmpR op_eq (pe_callB call_len_seq (by rfl) Z.len (by decide +kernel) (pa_cons (pe_cal C_parts_of (hr.mono (by decide)) (pa_cons (pv 0) pa_nil)) pa_nil)) pe_int (nomark _)))), ?_⟩
    refine s_ret (P := en (hangB cells)) ?_ fun v H1 e h => q v H1 e h
    intro H1 e Q' q'
    refine (ev_c1 (ea_cons (ev_var rfl hv) ea_nil) ⟨cells, hP, hlen, rfl⟩ : EvP _ _ _ (enX fun pts : List (List Cell) => pts.length = 1 ↔ Hang cells)) H1 e _ fun u H2 e2 ⟨pts, hpt, hu⟩ => ?_
    obtain ⟨a, us, rfl, h1, h2⟩ := hu
    refine ⟨a, us, rfl, .inr (.inl (.inl h1)), rfl, q' _ H2 e2 ?_⟩
    show V.bl _ = V.bl _
    rw [dec_V_int, h2.length]
    congr 1
    cases hb : hangB cells with
    | true =>
      refine decide_eq_true ?_
      have := hpt.mpr (hangB_iff.mp hb)
      omega
    | false =>
      refine decide_eq_false fun z => ?_
      have := hangB_iff.mpr (hpt.mp (by omega))
      rw [hb] at this
      cases this
abbrev s_is_free : Stmt := topS 16
abbrev n_is_free : List Str := ["body", "cell", "one"]
theorem sc_is_free : FnScope n_is_free ["body", "cell"] (defScope s_is_free) := ⟨rfl, rfl, rfl, by decide +kernel, rfl, by decide +kernel, by decide +kernel⟩
theorem ok_is_free (T : Txt K mg "is_free" "is_free" s_is_free ["body", "cell"]) (Z : Blt mg) (C_hangs : Cal P w K mg base 7 "hangs" ["cells"] spHangsC) : Cal P w K mg base 8 "is_free" ["body", "cell"] spFree :=
  T.cal sc_is_free S2.len fun f cdv A outer s H vs Q E hr h => by
    obtain ⟨v1, v2, P1, P2, Pz, rfl, ⟨body, c, rfl, rfl, hlen, rfl⟩, h1, h2, q⟩ := h
    refine ⟨_, (pss_one (ps_ret (pe_cal C_hangs (hr.mono (by decide)) (pa_cons (pe_lc (own := [("one", 2)]) (g := gName 2) rfl sc_is_free.nd (pi_tup (pv 0)) (blkOk_by (N := n_is_free) (sc := defScope s_is_free) (by decide +kernel)) (fun _ _ _ _ _ => (pg_name (i := 2) sc_is_free.nd rfl (Or.inl rfl))) (fun _ _ _ _ _ => (pts_one (pt_cmpR (op_neD (ru64 hr) : OpR _ _ (rNeD K)) (pv 2) (pv 1) (nomark _)))) (fun _ _ _ _ _ => (pv 2))) pa_nil)))), ?_⟩
    refine s_ret (ev_c1 (P1 := li (rest body c)) (ea_cons ?_ ea_nil) ⟨_, .inr rfl, Nat.le_trans rest_len hlen, rfl⟩) fun v H1 e h => q v H1 e h
    exact ((en_lcT (f := fun x => x) (p := fun x => !decide (x = c)) (ev_var rfl h1) (by omega) fun x u H' hx e hu => ⟨eb_test (ev_neE (ev_var rfl hu) (ev_var rfl (en_up e h2))), fun _ => ev_var rfl hu⟩).is (List.map_id' _)).li
end
end TB
set_option Elab.async false
set_option linter.all false
set_option maxRecDepth 100000
set_option maxHeartbeats 2000000
/-! D33: supports_of of the code. -/
namespace TB
open PySem PySem.Spec PyProof.Rows L2
section
variable {K : PySem.W.Frag} {s : TSt} {H : Hp} {tl te : TE} {tt : TT} {α β γ : Type} [DecidableEq α] [Enc α] [DecidableEq β] [Enc β] [DecidableEq γ] [Enc γ]
/-- [e for a, b in t if ..] over a tuple of pairs -/
theorem en_lcTP {i j : Nat} {vs : List Nat} {xs : List (α × β)} {p : α × β → Bool} {f : α × β → γ} (h : EvP tl s H (en xs)) (hl : xs.length ≤ 1000000)
    (hb : ∀ x u w H', x ∈ xs → Ex H H' → En H' u x.1 → En H' w x.2 → EvB tt (((wipe s vs).set i (some u)).set j (some w)) H' (p x) ∧ (p x = true → EvP te (((wipe s vs).set i (some u)).set j (some w)) H' (en (f x))))
    (hw : ∀ u w, wipe (((wipe s vs).set i (some u)).set j (some w)) vs = wipe s vs := by intro u w; rfl) :
    EvN (tLc (iTup K tl) (gTup K 2 (gCons (gName i) (gCons (gName j) gNil))) tt te vs) s H ((xs.filter p).map f) := fun H1 e Q q =>
  h H1 e _ fun v H2 e2 ⟨a, us, ev, ha, hp⟩ => by
    subst ev
    refine ⟨a, rfl, ⟨us, .inl (.inl ha)⟩, fun D hD => lc_tup (K := K) (a := a) (xs := us) (fun i H' => LcInv H2 D (((xs.take i).filter p).map f) H') (lcInv_0 hD) (fun i H' _ I => .inl (.inl (I.1 _ _ ha))) (fun i u H' hu I => ?_) fun H' I => ?_⟩
    · obtain ⟨x, hx, hr⟩ := paired_getL hp hu
      obtain ⟨t, u1, u2, eu, h1, h2, h3⟩ := en_up I.1 hr
      subst eu
      obtain ⟨b1, b2⟩ := hb x u1 u2 H' (List.mem_of_getElem? hx) ((e.tr e2).tr I.1) h2 h3
      refine ⟨t, [u1, u2], rfl, .inl (.inl h1), rfl, u1, [u2], rfl, u2, [], rfl, rfl, hw u1 u2, lc_turn hD I ?_ b1 b2 fun H2 I2 => ?_⟩
      · rw [List.length_map]
        exact Nat.le_trans (List.length_filter_le _ _) (by rw [List.length_take]; omega)
      · rw [take_fm p f hx]
        exact I2
    · rw [hp.length, List.take_length] at I
      exact q D H' (e2.back hD) (e2.tr I.1) I.2
/-- a pair is a tuple of two -/
theorem ev_two {ta : TE} {x : α × α} (h : EvP ta s H (en x)) : EvP ta s H (en [x.1, x.2]) := fun H1 e Q q =>
  h H1 e _ fun v H2 e2 hv => by
    obtain ⟨p, u, w, rfl, h1, h2, h3⟩ := hv
    exact q _ H2 e2 ⟨p, _, rfl, h1, .cons h2 (.cons h3 .nil)⟩
end
def sideF (s e g : Int × Int) : Cell × Cell := ((s.1 + g.1, s.2 + g.2), (e.1 + g.1, e.2 + g.2))
/-- what the code makes -/
def suppC (q : Cell → Bool) (s e : Cell) : List (List Cell) :=
  if (!q s || q e) = true then []
  else if decide (ab (e.1 - s.1) + ab (e.2 - s.2) = 1) = true then
    srt (((([(e.2 - s.2, e.1 - s.1), (-(e.2 - s.2), -(e.1 - s.1))].filter fun _ => true).map (sideF s e)).filter fun sd => q sd.1 && q sd.2).map fun sd => srt [sd.1, sd.2])
  else if (decide (ab (e.1 - s.1) = 1) && decide (ab (e.2 - s.2) = 1)) = true then
    (match ([(s.1 + (e.1 - s.1), s.2), (s.1, s.2 + (e.2 - s.2))].filter q).map fun x => x with
    | [c] => [[c]]
    | _ => [])
  else []
theorem ab_cases (i : Int) : (ab i = i ∧ 0 ≤ i) ∨ (ab i = -i ∧ i < 0) := by
  unfold ab
  split
  · exact .inr ⟨rfl, by assumption⟩
  · exact .inl ⟨rfl, by omega⟩
theorem srt_perm2 {α : Type} [DecidableEq α] [Enc α] [EncO α] {a b : List α} (p : a.Perm b) : srt a = srt b := srt_one (((srt_perm b).trans p.symm)) (srt_pw b)
theorem suppC_eq (q : Cell → Bool) (s e : Cell) : suppC q s e = supp q s e := by
  obtain ⟨s1, s2⟩ := s
  obtain ⟨e1, e2⟩ := e
  obtain ⟨a, rfl⟩ : ∃ a, e1 = s1 + a := ⟨e1 - s1, by omega⟩
  obtain ⟨u, rfl⟩ : ∃ u, e2 = s2 + u := ⟨e2 - s2, by omega⟩
  unfold suppC supp
  have hza : s1 + a - s1 = a := by omega
  have hzu : s2 + u - s2 = u := by omega
  simp only [hza, hzu]
  have ca := ab_cases a
  have cu := ab_cases u
  by_cases h0 : (!q (s1, s2) || q (s1 + a, s2 + u)) = true
  · rw [if_pos h0, if_pos]
    rw [← Bool.or_assoc, h0, Bool.true_or]
  · rw [if_neg h0]
    have h0' : (!q (s1, s2) || q (s1 + a, s2 + u)) = false := by simpa using h0
    by_cases h1 : ab a + ab u = 1
    · have hm : mx (ab a) (ab u) = 1 := by
        unfold mx
        split <;> omega
      have hz : (!decide (a = 0) && !decide (u = 0)) = false := by
        by_cases z : a = 0
        · simp [z]
        · have : u = 0 := by omega
          simp [this]
      rw [if_pos (decide_eq_true h1), if_neg, if_neg (by rw [hz]; exact Bool.false_ne_true)]
      · congr 1
        have e1 : s1 + -1 * u = s1 + -u := by omega
        have e2 : s2 + -1 * a = s2 + -a := by omega
        have e3 : s1 + a + -1 * u = s1 + a + -u := by omega
        have e4 : s2 + u + -1 * a = s2 + u + -a := by omega
        simp only [List.filter_cons, List.filter_nil, List.map_cons, List.map_nil, sideF, if_true, Int.one_mul, e1, e2, e3, e4]
        split <;> split <;> simp only [List.map_cons, List.map_nil, Int.one_mul, e1, e2, e3, e4]
      · rw [← Bool.or_assoc, h0', Bool.false_or, decide_eq_true hm]
        exact Bool.false_ne_true
    · rw [if_neg (by rw [decide_eq_false h1]; exact Bool.false_ne_true)]
      by_cases h2 : ab a = 1 ∧ ab u = 1
      · have hm : mx (ab a) (ab u) = 1 := by
          unfold mx
          split <;> omega
        have ha : a ≠ 0 := by omega
        have hu : u ≠ 0 := by omega
        rw [if_pos (by rw [decide_eq_true h2.1, decide_eq_true h2.2]; rfl), if_neg, if_pos (by rw [decide_eq_false ha, decide_eq_false hu]; rfl)]
        · simp only [List.filter_cons, List.filter_nil, List.map_id']
          cases q (s1 + a, s2) <;> cases q (s1, s2 + u) <;> rfl
        · rw [← Bool.or_assoc, h0', Bool.false_or, decide_eq_true hm]
          exact Bool.false_ne_true
      · have hm : mx (ab a) (ab u) ≠ 1 := by
          unfold mx
          split <;> omega
        rw [if_neg (by
          intro z
          rw [Bool.and_eq_true] at z
          exact h2 ⟨of_decide_eq_true z.1, of_decide_eq_true z.2⟩), if_pos]
        rw [decide_eq_false hm]
        simp
section
variable {P : Program} {w : World} {K : PySem.W.Frag} {mg : Str → Option Value} {base : Heap}
abbrev s_supports_of : Stmt := topS 18
abbrev n_supports_of : List Str := ["squares", "start", "end", "across", "up", "sides", "common", "corners", "a", "b", "side", "cell"]
theorem sc_supports_of : FnScope n_supports_of ["squares", "start", "end"] (defScope s_supports_of) := ⟨rfl, rfl, rfl, by decide +kernel, rfl, by decide +kernel, by decide +kernel⟩
def spSupportsC : Sp := S3 fun P1 P2 P3 Pz => ∃ (m : List (Cell × Bool)) (s e : Cell), P1 = ds m ∧ P2 = en s ∧ P3 = en e ∧ Pz = en (supp (fun c => (dget m c).isSome) s e)
theorem ok_supports_of (T : Txt K mg "supports_of" "supports_of" s_supports_of ["squares", "start", "end"]) (Z : Blt mg) : Cal P w K mg base 1 "supports_of" ["squares", "start", "end"] spSupportsC :=
  T.cal sc_supports_of S3.len fun f cdv A outer s H vs Q E hr h => by
    obtain ⟨v1, v2, v3, P1, P2, P3, Pz, rfl, ⟨m, c, d, rfl, rfl, rfl, rfl⟩, h1, h2, h3, q⟩ := h
    refine ⟨_, (pss_cons (ps_par (i := 3) (j := 4) rfl sc_supports_of.nd rfl rfl (by decide) rfl rfl (pa_cons (pe_op op_sub (pe_ix ix_tup (pv 2) pe_int (fun _ _ => rfl)) (pe_ix ix_tup (pv 1) pe_int (fun _ _ => rfl))) (pa_cons (pe_op op_sub (pe_ix ix_tup (pv 2) pe_int (fun _ _ => rfl)) (pe_ix ix_tup (pv 1) pe_int (fun _ _ => rfl))) pa_nil)) (by rfl))
      (pss_cons (ps_if (PW.pt (pw_or (pt_cmp ((pc_dnotin (ru1 hr)) (pv 1) (pv 0))) (pw_or1 (pt_cmp ((pc_din (ru1 hr)) (pv 2) (pv 0)))))) (pss_one (ps_ret (pe_tup pa_nil))) pss_nil)
      (pss_cons (ps_if (pt_cmpR op_eq (pe_op op_add (pe_callB call_abs (by rfl) Z.abs (by decide +kernel) (pa_cons (pv 3) pa_nil)) (pe_callB call_abs (by rfl) Z.abs (by decide +kernel) (pa_cons (pv 4) pa_nil))) pe_int (nomark _)) (pss_cons (ps_setLc (i := 5) (own := [("a", 8), ("b", 9)]) (g := gTup K 2 (gCons (gName 8) (gCons (gName 9) gNil))) (tt := tYes)  rfl sc_supports_of.nd rfl rfl (sw_true rfl rfl rfl (by decide +kernel)) (pi_tup (pe_tup (pa_cons (pe_tup (pa_cons (pv 4) (pa_cons (pv 3) pa_nil))) (pa_cons (pe_tup (pa_cons (pe_un un_neg (pv 4)) (pa_cons (pe_un un_neg (pv 3)) pa_nil))) pa_nil)))) (blkOk_by (N := n_supports_of) (sc := defScope s_supports_of) (by decide +kernel)) (fun _ _ _ _ _ => (pg_tup rfl (pgs_cons (pg_name (i := 8) sc_supports_of.nd rfl (Or.inl rfl)) (pgs_cons (pg_name (i := 9) sc_supports_of.nd rfl (Or.inl rfl)) pgs_nil)))) (fun _ _ _ _ _ => pts_nil) (fun _ _ _ _ _ => (pe_tup (pa_cons (pe_tup (pa_cons (pe_op op_add (pe_ix (ix_tup : IxR _ (rIxT K)) (pv 1) pe_int (fun _ _ => rfl)) (pv 8)) (pa_cons (pe_op op_add (pe_ix (ix_tup : IxR _ (rIxT K)) (pv 1) pe_int (fun _ _ => rfl)) (pv 9)) pa_nil))) (pa_cons (pe_tup (pa_cons (pe_op op_add (pe_ix (ix_tup : IxR _ (rIxT K)) (pv 2) pe_int (fun _ _ => rfl)) (pv 8)) (pa_cons (pe_op op_add (pe_ix (ix_tup : IxR _ (rIxT K)) (pv 2) pe_int (fun _ _ => rfl)) (pv 9)) pa_nil))) pa_nil)))))
      (pss_one (ps_ret (pe_callTy call_tuple_of (by rfl) Z.tuple (by decide +kernel) (pa_cons (pe_callB (cr_sortE (a := List Cell) (by decide) (ru64 hr)) (by rfl) Z.sorted (by decide +kernel) (pa_cons (pe_lc (own := [("side", 10)]) (g := gName 10) rfl sc_supports_of.nd (pi_list (pv 5)) (blkOk_by (N := n_supports_of) (sc := defScope s_supports_of) (by decide +kernel)) (fun _ _ _ _ _ => (pg_name (i := 10) sc_supports_of.nd rfl (Or.inl rfl))) (fun _ _ _ _ _ => (pts_one (PW.pt (pw_and (pt_cmp ((pc_din (ru1 hr)) (pe_ix (ix_tup : IxR _ (rIxT K)) (pv 10) pe_int (fun _ _ => rfl)) (pv 0))) (pw_and1 (pt_cmp ((pc_din (ru1 hr)) (pe_ix (ix_tup : IxR _ (rIxT K)) (pv 10) pe_int (fun _ _ => rfl)) (pv 0)))))))) (fun _ _ _ _ _ => (pe_callTy (call_tuple_of : CallR _ _ (rTupK K)) (by rfl) Z.tuple (by decide +kernel) (pa_cons (pe_callB (cr_sortUE (a := Cell) (by decide) (ru64 hr)) (by rfl) Z.sorted (by decide +kernel) (pa_cons (pv 10) pa_nil)) pa_nil)))) pa_nil)) pa_nil))))) pss_nil)
      (pss_cons (ps_if (PW.pt (pw_and (pt_cmpR op_eq (pe_callB call_abs (by rfl) Z.abs (by decide +kernel) (pa_cons (pv 3) pa_nil)) pe_int (nomark _)) (pw_and1 (pt_cmpR op_eq (pe_callB call_abs (by rfl) Z.abs (by decide +kernel) (pa_cons (pv 4) pa_nil)) pe_int (nomark _))))) (pss_cons (ps_set (i := 6) sc_supports_of.nd rfl (Or.inl rfl) (pe_lst (pa_cons (pe_tup (pa_cons (pe_op op_add (pe_ix ix_tup (pv 1) pe_int (fun _ _ => rfl)) (pv 3)) (pa_cons (pe_ix ix_tup (pv 1) pe_int (fun _ _ => rfl)) pa_nil))) (pa_cons (pe_tup (pa_cons (pe_ix ix_tup (pv 1) pe_int (fun _ _ => rfl)) (pa_cons (pe_op op_add (pe_ix ix_tup (pv 1) pe_int (fun _ _ => rfl)) (pv 4)) pa_nil))) pa_nil))))
      (pss_cons (ps_setLc (i := 7) (own := [("cell", 11)]) (g := gName 11)  rfl sc_supports_of.nd rfl rfl (sw_true rfl rfl rfl (by decide +kernel)) (pi_list (pv 6)) (blkOk_by (N := n_supports_of) (sc := defScope s_supports_of) (by decide +kernel)) (fun _ _ _ _ _ => (pg_name (i := 11) sc_supports_of.nd rfl (Or.inl rfl))) (fun _ _ _ _ _ => (pts_one (pt_cmp ((pc_din (ru1 hr)) (pv 11) (pv 0))))) (fun _ _ _ _ _ => (pv 11)))
      (pss_one (ps_if (pt_cmpR op_eq (pe_callB call_len_seq (by rfl) Z.len (by decide +kernel) (pa_cons (pv 7) pa_nil)) pe_int (nomark _)) (pss_one (ps_ret (pe_tup (pa_cons (pe_tup (pa_cons (pe_ix ix_list (pv 7) pe_int (fun _ _ => rfl)) pa_nil)) pa_nil)))) pss_nil)))) pss_nil)
      (pss_one (ps_ret (pe_tup pa_nil))))))), ?_⟩
    rw [← suppC_eq] at q
    have hc : ∀ {s : TSt} {H1}, s[1]? = some (some v2) → Ex H H1 → EvP (tVar 1) s H1 (en c) := fun hs e => ev_var hs (en_up e h2)
    have hd : ∀ {s : TSt} {H1}, s[2]? = some (some v3) → Ex H H1 → EvP (tVar 2) s H1 (en d) := fun hs e => ev_var hs (en_up e h3)
    have hm : ∀ {s : TSt} {H1}, s[0]? = some (some v1) → Ex H H1 → EvP (tVar 0) s H1 (ds m) := fun hs e => ev_var hs ((ds m).up e h1)
    refine q_par (P1 := en (d.1 - c.1)) (P2 := en (d.2 - c.2)) (ea_cons (ev_I (ev_fst (hd rfl Ex.same)) (ev_fst (hc rfl Ex.same))) (ea_cons (ev_I (ev_snd (hd rfl Ex.same)) (ev_snd (hc rfl Ex.same))) ea_nil)) fun u1 u2 H1 e1 g1 g2 => ?_
    refine q_ifN (b := !(dget m c).isSome || (dget m d).isSome) (eb_or (eb_test (ev_niD (hc rfl e1) (hm rfl e1))) fun _ => eb_test (ev_inD (hd rfl e1) (hm rfl e1))) (fun hb H2 e2 => ?_) fun hb H2 e2 => ?_
    · refine s_ret (P := en ([] : List (List Cell))) (ev_tup (xs := ([] : List (List Cell))) ea_nil) fun v H3 e3 hv => q v H3 ((e1.tr e2).tr e3) ?_
      unfold suppC
      rw [if_pos hb]
      exact hv
    · have e12 := e1.tr e2
      refine q_ifN (b := decide (ab (d.1 - c.1) + ab (d.2 - c.2) = 1)) (eb_test (ev_eqI (ev_I (ev_abs rfl (ev_var rfl (en_up e2 g1))) (ev_abs rfl (ev_var rfl (en_up e2 g2)))) ev_int)) (fun hb2 H3 e3 => ?_) fun hb2 H3 e3 => ?_
      · have e13 := e12.tr e3
        have g1' := en_up (e2.tr e3) g1
        have g2' := en_up (e2.tr e3) g2
        refine q_asgN (en_lcTP (xs := [(d.2 - c.2, d.1 - c.1), (-(d.2 - c.2), -(d.1 - c.1))]) (p := fun _ => true) (f := sideF c d) (ev_tup (xs := [(d.2 - c.2, d.1 - c.1), (-(d.2 - c.2), -(d.1 - c.1))]) (ea_cons (ev_pair (ev_var rfl g2') (ev_var rfl g1')) (ea_cons (ev_pair (ev_neg (ev_var rfl g2')) (ev_neg (ev_var rfl g1'))) ea_nil))) (Nat.le_of_ble_eq_true rfl) fun x u w H' hx e hu hw => ⟨eb_yes, fun _ =>
          ev_pair (ev_pair (ev_I (ev_fst (hc rfl (e13.tr e))) (ev_var rfl hu)) (ev_I (ev_snd (hc rfl (e13.tr e))) (ev_var rfl hw))) (ev_pair (ev_I (ev_fst (hd rfl (e13.tr e))) (ev_var rfl hu)) (ev_I (ev_snd (hd rfl (e13.tr e))) (ev_var rfl hw)))⟩) fun p H4 n4 e4 hp => ?_
        have e14 := e13.tr e4
        refine s_ret (ev_tupleL rfl (en_sort (en_lcL (p := fun sd : Cell × Cell => (dget m sd.1).isSome && (dget m sd.2).isSome) (f := fun sd : Cell × Cell => srt [sd.1, sd.2]) (ev_li rfl hp) (Nat.le_of_ble_eq_true rfl) fun x u H' hx e hu => ⟨eb_and (eb_test (ev_inD (ev_fst (ev_var rfl hu)) (hm rfl (e14.tr e)))) fun _ => eb_test (ev_inD (ev_snd (ev_var rfl hu)) (hm rfl (e14.tr e))), fun _ =>
          ev_tupleL rfl (en_sortUE (ev_two (ev_var rfl hu)) (Nat.le_of_ble_eq_true rfl) (.inl fun x _ => ⟨_, _, rfl⟩)).li⟩).li (.inl fun x hx => ?_)).li) fun v H5 e5 hv => q v H5 (e14.tr e5) ?_
        · obtain ⟨g, _, rfl⟩ := List.mem_map.mp hx
          generalize hz : srt [g.1, g.2] = z
          cases z with
          | nil =>
            have := congrArg List.length hz
            rw [srt_len] at this
            cases this
          | cons y r => exact ⟨_, _, rfl⟩
        · unfold suppC
          rw [if_neg (by rw [hb]; exact Bool.false_ne_true), if_pos hb2]
          exact hv
      · have e13 := e12.tr e3
        have g1' := en_up (e2.tr e3) g1
        have g2' := en_up (e2.tr e3) g2
        refine q_ifN (b := decide (ab (d.1 - c.1) = 1) && decide (ab (d.2 - c.2) = 1)) (eb_and (eb_test (ev_eqI (ev_abs rfl (ev_var rfl g1')) ev_int)) fun _ => eb_test (ev_eqI (ev_abs rfl (ev_var rfl g2')) ev_int)) (fun hb3 H4 e4 => ?_) fun hb3 H4 e4 => ?_
        · have e14 := e13.tr e4
          have g1'' := en_up e4 g1'
          have g2'' := en_up e4 g2'
          refine q_asgN (en_lst (xs := [(c.1 + (d.1 - c.1), c.2), (c.1, c.2 + (d.2 - c.2))]) (ea_cons (ev_pair (ev_I (ev_fst (hc rfl e14)) (ev_var rfl g1'')) (ev_snd (hc rfl e14))) (ea_cons (ev_pair (ev_fst (hc rfl e14)) (ev_I (ev_snd (hc rfl e14)) (ev_var rfl g2''))) ea_nil)) (Nat.le_of_ble_eq_true rfl)) fun p H5 n5 e5 hp => ?_
          have e15 := e14.tr e5
          refine q_asgN (en_lcL (p := fun x : Cell => (dget m x).isSome) (f := fun x : Cell => x) (ev_li rfl hp) (Nat.le_of_ble_eq_true rfl) fun x u H' hx e hu => ⟨eb_test (ev_inD (ev_var rfl hu) (hm rfl (e15.tr e))), fun _ => ev_var rfl hu⟩) fun p2 H6 n6 e6 hp2 => ?_
          have e16 := e15.tr e6
          generalize hl : (([(c.1 + (d.1 - c.1), c.2), (c.1, c.2 + (d.2 - c.2))].filter fun x : Cell => (dget m x).isSome).map fun x => x) = l at hp2
          refine s_ifN (b := decide ((l.length : Int) = 1)) (eb_test (ev_eqI (ev_len rfl (ev_li rfl hp2)) ev_int)) (fun hb4 H7 e7 => ?_) fun hb4 H7 e7 => ?_
          · obtain ⟨x, rfl⟩ : ∃ x, l = [x] := by
              have := of_decide_eq_true hb4
              exact List.length_eq_one_iff.mp (by omega)
            refine s_ret (P := en [[x]]) (ev_tup (xs := [[x]]) (ea_cons (ev_tup (xs := [x]) (ea_cons (ev_ixL (ev_li rfl (hp2.up e7)) ev_int rfl) ea_nil)) ea_nil)) fun v H8 e8 hv => q v H8 ((e16.tr e7).tr e8) ?_
            unfold suppC
            rw [if_neg (by rw [hb]; exact Bool.false_ne_true), if_neg (by rw [hb2]; exact Bool.false_ne_true), if_pos hb3, hl]
            exact hv
          · show (tRet (tTup tNil)) _ ([] : TSt) _
            refine s_ret (P := en ([] : List (List Cell))) (ev_tup (xs := ([] : List (List Cell))) ea_nil) fun v H8 e8 hv => q v H8 ((e16.tr e7).tr e8) ?_
            unfold suppC
            rw [if_neg (by rw [hb]; exact Bool.false_ne_true), if_neg (by rw [hb2]; exact Bool.false_ne_true), if_pos hb3, hl]
            match l, hb4 with
            | [], _ => exact hv
            | [x], h => cases h
            | x :: y :: r, _ => exact hv
        · refine s_ret (P := en ([] : List (List Cell))) (ev_tup (xs := ([] : List (List Cell))) ea_nil) fun v H8 e8 hv => q v H8 ((e13.tr e4).tr e8) ?_
          unfold suppC
          rw [if_neg (by rw [hb]; exact Bool.false_ne_true), if_neg (by rw [hb2]; exact Bool.false_ne_true), if_neg (by rw [hb3]; exact Bool.false_ne_true)]
          exact hv
end
end TB
set_option Elab.async false
set_option linter.all false
set_option maxRecDepth 100000
set_option maxHeartbeats 2000000
/-! D34: kind_of of the code. -/
namespace TB
open PySem PySem.Spec PyProof.Rows L2
section
variable {P : Program} {w : World} {K : PySem.W.Frag} {mg : Str → Option Value} {base : Heap}
abbrev s_kind_of : Stmt := topS 20
abbrev n_kind_of : List Str := ["body", "start", "end"]
theorem sc_kind_of : FnScope n_kind_of ["body", "start", "end"] (defScope s_kind_of) := ⟨rfl, rfl, rfl, by decide +kernel, rfl, by decide +kernel, by decide +kernel⟩
theorem ok_kind_of (T : Txt K mg "kind_of" "kind_of" s_kind_of ["body", "start", "end"]) (Z : Blt mg) (C_check_cell : Cal P w K mg base 3 "check_cell" ["value"] spCheckCell) (C_supports_of : Cal P w K mg base 1 "supports_of" ["squares", "start", "end"] spSupportsC)
    (C_squares_of : Cal P w K mg base 1 "squares_of" ["body"] spSquares) (C_is_free : Cal P w K mg base 8 "is_free" ["body", "cell"] spFree) : Cal P w K mg base 9 "kind_of" ["body", "start", "end"] spKind :=
  T.cal sc_kind_of S3.len fun f cdv A outer s H vs Q E hr h => by
    obtain ⟨v1, v2, v3, P1, P2, P3, Pz, rfl, ⟨b, c, d, rfl, rfl, rfl, hlen, rfl⟩, h1, h2, h3, q⟩ := h
    refine ⟨_, (pss_cons (ps_expr (pe_cal C_check_cell (hr.mono (by decide)) (pa_cons (pv 1) pa_nil)))
      (pss_cons (ps_expr (pe_cal C_check_cell (hr.mono (by decide)) (pa_cons (pv 2) pa_nil)))
      (pss_cons (ps_if (PW.pt (pw_or (pt_cmpR (op_eqD (ru64 hr)) (pe_cal C_supports_of (hr.mono (by decide)) (pa_cons (pe_cal C_squares_of (hr.mono (by decide)) (pa_cons (pv 0) pa_nil)) (pa_cons (pv 1) (pa_cons (pv 2) pa_nil)))) (pe_tup pa_nil) (nomark _)) (pw_or1 (pt_not (pt_val (pe_cal C_is_free (hr.mono (by decide)) (pa_cons (pv 0) (pa_cons (pv 1) pa_nil)))))))) (pss_one (ps_ret pe_non)) pss_nil)
      (pss_one (ps_ret (pe_ifExp (PW.pt (pw_or (pt_cmpR op_eq (pe_ix ix_tup (pv 1) pe_int (fun _ _ => rfl)) (pe_ix ix_tup (pv 2) pe_int (fun _ _ => rfl)) (nomark _)) (pw_or1 (pt_cmpR op_eq (pe_ix ix_tup (pv 1) pe_int (fun _ _ => rfl)) (pe_ix ix_tup (pv 2) pe_int (fun _ _ => rfl)) (nomark _))))) pe_str pe_str)))))), ?_⟩
    refine q_drop (P := nn) (ev_c1 (P1 := en c) (ea_cons (ev_var rfl h2) ea_nil) ⟨_, rfl, rfl⟩) fun Ha ea => ?_
    refine q_drop (P := nn) (ev_c1 (P1 := en d) (ea_cons (ev_var rfl (en_up ea h3)) ea_nil) ⟨_, rfl, rfl⟩) fun Hb eb => ?_
    have e0 := ea.tr eb
    replace h1 := en_up e0 h1
    replace h2 := en_up e0 h2
    replace h3 := en_up e0 h3
    refine q_ifN (b := decide (supp (isIn b) c d = []) || !hangB (rest b c)) (eb_or (eb_test (ev_eqE (x := supp (isIn b) c d) (y := []) ?_ (ev_tup (xs := ([] : List (List Cell))) ea_nil))) fun _ => eb_not (eb_B (ev_c2 (P1 := en b) (P2 := en c) (ea_cons (ev_var rfl h1) (ea_cons (ev_var rfl h2) ea_nil)) ⟨_, _, rfl, rfl, hlen, rfl⟩))) (fun hb H1 e1 => ?_) fun hb H1 e1 => ?_
    · refine ev_c3 (P1 := ds (dall b)) (P2 := en c) (P3 := en d) (ea_cons (ew_c1 (P1 := en b) (ea_cons (ev_var rfl h1) ea_nil) ⟨_, .inl rfl, hlen, rfl⟩).p (ea_cons (ev_var rfl h2) (ea_cons (ev_var rfl h3) ea_nil))) ⟨_, _, _, rfl, rfl, rfl, ?_⟩
      rw [dall_in]
    · refine s_ret ev_nonk fun v H2 e2 hv => q v H2 ((e0.tr e1).tr e2) ?_
      unfold okMove
      rw [hb]
      exact hv
    · refine s_ret (P := kd true) (ev_if (b := decide (c.1 = d.1) || decide (c.2 = d.2)) (eb_or (eb_test (ev_eqI (ev_fst (ev_var rfl (en_up e1 h2))) (ev_fst (ev_var rfl (en_up e1 h3))))) fun _ => eb_test (ev_eqI (ev_snd (ev_var rfl (en_up e1 h2))) (ev_snd (ev_var rfl (en_up e1 h3))))) (fun _ => ev_str) fun _ => ev_str) fun v H2 e2 hv => q v H2 ((e0.tr e1).tr e2) ?_
      unfold okMove
      rw [hb]
      exact hv
end
end TB
set_option Elab.async false
set_option linter.all false
set_option maxRecDepth 100000
set_option maxHeartbeats 2000000
/-! D35: done of the code. -/
namespace TB
open PySem PySem.Spec PyProof.Rows L2
section
variable {P : Program} {w : World} {K : PySem.W.Frag} {mg : Str → Option Value} {base : Heap}
abbrev s_done : Stmt := topS 21
abbrev n_done : List Str := ["body", "start", "end", "kind", "cell"]
theorem sc_done : FnScope n_done ["body", "start", "end"] (defScope s_done) := ⟨rfl, rfl, rfl, by decide +kernel, rfl, by decide +kernel, by decide +kernel⟩
def spDoneC : Sp := S3 fun P1 P2 P3 Pz => ∃ (b : List Cell) (c d : Cell), P1 = en b ∧ P2 = en c ∧ P3 = en d ∧ b.length ≤ 1000 ∧ okMove b c d = true ∧ Pz = en (done b c d)
theorem ok_done (T : Txt K mg "done" "done" s_done ["body", "start", "end"]) (Z : Blt mg) (C_kind_of : Cal P w K mg base 9 "kind_of" ["body", "start", "end"] spKind) : Cal P w K mg base 10 "done" ["body", "start", "end"] spDoneC :=
  T.cal sc_done S3.len fun f cdv A outer s H vs Q E hr h => by
    obtain ⟨v1, v2, v3, P1, P2, P3, Pz, rfl, ⟨b, c, d, rfl, rfl, rfl, hlen, hok, rfl⟩, h1, h2, h3, q⟩ := h
    refine ⟨_, (pss_cons (ps_set (i := 3) sc_done.nd rfl (Or.inl rfl) (pe_cal C_kind_of (hr.mono (by decide)) (pa_cons (pv 0) (pa_cons (pv 1) (pa_cons (pv 2) pa_nil)))))
      (pss_cons (ps_if (pt_cmpR (op_notInU (ru65 hr)) (pv 1) (pv 0) (by rfl)) (pss_one ps_never) pss_nil)
      (pss_cons (ps_if (pt_cmpR op_isN (pv 3) pe_non (nomark _)) (pss_one ps_never) pss_nil)
      (pss_one (ps_ret (pe_callTy call_tuple_of (by rfl) Z.tuple (by decide +kernel) (pa_cons (pe_callB (cr_sortE (a := Cell) (by decide) (ru64 hr)) (by rfl) Z.sorted (by decide +kernel) (pa_cons (pe_op op_cat (pe_lc (own := [("cell", 4)]) (g := gName 4) rfl sc_done.nd (pi_tup (pv 0)) (blkOk_by (N := n_done) (sc := defScope s_done) (by decide +kernel)) (fun _ _ _ _ _ => (pg_name (i := 4) sc_done.nd rfl (Or.inl rfl))) (fun _ _ _ _ _ => (pts_one (pt_cmpR (op_neD (ru64 hr) : OpR _ _ (rNeD K)) (pv 4) (pv 1) (nomark _)))) (fun _ _ _ _ _ => (pv 4))) (pe_lst (pa_cons (pv 2) pa_nil))) pa_nil)) pa_nil))))))), ?_⟩
    refine q_asg (P := kd (okMove b c d)) (ev_c3 (P1 := en b) (P2 := en c) (P3 := en d) (ea_cons (ev_var rfl h1) (ea_cons (ev_var rfl h2) (ea_cons (ev_var rfl h3) ea_nil))) ⟨_, _, _, rfl, rfl, rfl, hlen, rfl⟩) fun vk H1 e1 hk => ?_
    replace h1 := en_up e1 h1
    replace h2 := en_up e1 h2
    replace h3 := en_up e1 h3
    refine q_ifN (b := !memB c b) (eb_test (ev_niU (ev_var rfl h2) (ev_var rfl h1))) (fun hb H2 e2 => ?_) fun hb H2 e2 => ?_
    · exact absurd (okMove_in hok).1 (by
        intro z
        rw [memB_iff.mpr z] at hb
        cases hb)
    · refine q_ifN (b := !okMove b c d) (eb_test (ev_isNon rfl (ev_var rfl ((kd (okMove b c d)).up e2 hk)))) (fun hb H3 e3 => ?_) fun hb H3 e3 => ?_
      · rw [hok] at hb
        cases hb
      · have h1' := en_up (e2.tr e3) h1
        have h2' := en_up (e2.tr e3) h2
        have h3' := en_up (e2.tr e3) h3
        refine s_ret (ev_tupleL rfl (en_sort (en_cat (xs := rest b c) (ys := [d]) ?_ (en_lst (xs := [d]) (ea_cons (ev_var rfl h3') ea_nil)).li ?_).li (.inl fun x _ => ⟨_, _, rfl⟩)).li) fun v H4 e4 hv => q v H4 (((e1.tr e2).tr e3).tr e4) hv
        · exact ((en_lcT (f := fun x => x) (p := fun x => !decide (x = c)) (ev_var rfl h1') (by omega) fun x u H' hx e hu => ⟨eb_test (ev_neE (ev_var rfl hu) (ev_var rfl (en_up e h2'))), fun _ => ev_var rfl hu⟩).is (List.map_id' _)).li
        · have := rest_len (cs := b) (c := c)
          show (rest b c).length + 1 ≤ 1000000
          omega
end
end TB
set_option Elab.async false
set_option linter.all false
set_option maxRecDepth 100000
set_option maxHeartbeats 2000000
/-! D36: holds of the code. -/
namespace TB
open PySem PySem.Spec PyProof.Rows L2
/-- the paper is right for the body -/
noncomputable def holdsP (b : List Cell) (p : Paper) : Bool :=
  memB p.sup (supp (isIn b) p.s p.e) && (!(memB p.s p.wit || !hangB p.wit) && ((p.wit.map fun c => isIn b c).all id && ((nbs p.s).map fun c => memB c p.wit || !isIn b c).all id))
theorem dall_is (b : List Cell) (c : Cell) : (dget (dall b) c).isSome = isIn b c := congrFun (dall_in b) c
section
variable {P : Program} {w : World} {K : PySem.W.Frag} {mg : Str → Option Value} {base : Heap} {C : Addr}
abbrev s_holds : Stmt := topS 28
abbrev n_holds : List Str := ["body", "step", "squares", "cell"]
theorem sc_holds : FnScope n_holds ["body", "step"] (defScope s_holds) := ⟨rfl, rfl, rfl, by decide +kernel, rfl, by decide +kernel, by decide +kernel⟩
def spHoldsC (C : Addr) : Sp := S2 fun P1 P2 Pz => ∃ (b : List Cell) (p : Paper), P1 = en b ∧ P2 = st C p ∧ b.length ≤ 1000 ∧ p.wit.length ≤ 1000 ∧ Pz = en (holdsP b p)
theorem ok_holds (T : Txt K mg "holds" "holds" s_holds ["body", "step"]) (Z : Blt mg) (TC : ClsT K C) (C_squares_of : Cal P w K mg base 1 "squares_of" ["body"] spSquares) (C_supports_of : Cal P w K mg base 1 "supports_of" ["squares", "start", "end"] spSupportsC)
    (C_hangs : Cal P w K mg base 7 "hangs" ["cells"] spHangsC) (C_beside : Cal P w K mg base 4 "beside" ["cell"] spBeside) : Cal P w K mg base 8 "holds" ["body", "step"] (spHoldsC C) :=
  T.cal sc_holds S2.len fun f cdv A outer s H vs Q E hr h => by
    obtain ⟨v1, v2, P1, P2, Pz, rfl, ⟨b, p, rfl, rfl, hlen, hwl, rfl⟩, h1, h2, q⟩ := h
    refine ⟨_, (pss_cons (ps_set (i := 2) sc_holds.nd rfl (Or.inr rfl) (pe_cal C_squares_of (hr.mono (by decide)) (pa_cons (pv 0) pa_nil)))
      (pss_cons (ps_if (pt_cmpR (op_notInU (ru65 hr)) (pe_fld (pv 1) rfl) (pe_cal C_supports_of (hr.mono (by decide)) (pa_cons (pv 2) (pa_cons (pe_fld (pv 1) rfl) (pa_cons (pe_fld (pv 1) rfl) pa_nil)))) (by rfl)) (pss_one (ps_ret pe_bl)) pss_nil)
      (pss_cons (ps_if (PW.pt (pw_or (pt_cmpR (op_inU (ru65 hr)) (pe_fld (pv 1) rfl) (pe_fld (pv 1) rfl) (by rfl)) (pw_or1 (pt_not (pt_val (pe_cal C_hangs (hr.mono (by decide)) (pa_cons (pe_fld (pv 1) rfl) pa_nil))))))) (pss_one (ps_ret pe_bl)) pss_nil)
      (pss_cons (ps_if (pt_not (pt_val (pe_callB (cr_all rfl) (by rfl) Z.all (by decide +kernel) (pa_cons (pe_lc (own := [("cell", 3)]) (g := gName 3) (tt := tYes) rfl sc_holds.nd (pi_tup (pe_fld (pv 1) rfl)) (blkOk_by (N := n_holds) (sc := defScope s_holds) (by decide +kernel)) (fun _ _ _ _ _ => (pg_name (i := 3) sc_holds.nd rfl (Or.inl rfl))) (fun _ _ _ _ _ => pts_nil) (fun _ _ _ _ _ => (pe_cmp ((pc_din (ru1 hr)) (pv 3) (pv 2)) rfl))) pa_nil)))) (pss_one (ps_ret pe_bl)) pss_nil)
      (pss_one (ps_ret (pe_callB (cr_all rfl) (by rfl) Z.all (by decide +kernel) (pa_cons (pe_lc (own := [("cell", 3)]) (g := gName 3) (tt := tYes) rfl sc_holds.nd (pi_tup (pe_cal C_beside (hr.mono (by decide)) (pa_cons (pe_fld (pv 1) rfl) pa_nil))) (blkOk_by (N := n_holds) (sc := defScope s_holds) (by decide +kernel)) (fun _ _ _ _ _ => (pg_name (i := 3) sc_holds.nd rfl (Or.inl rfl))) (fun _ _ _ _ _ => pts_nil) (fun _ _ _ _ _ => (pe_or (pe_cmpR (op_inU (ru65 hr) : OpR _ _ (rInU K)) (pv 3) (pe_fld (pv 1) rfl : PE _ _ (tFld K _ "witness")) (by rfl)) (pe_one (pe_cmp ((pc_dnotin (ru1 hr)) (pv 3) (pv 2)) rfl))))) pa_nil)))))))), ?_⟩
    refine q_asgW (ew_c1 (P1 := en b) (ea_cons (ev_var rfl h1) ea_nil) ⟨_, .inl rfl, hlen, rfl⟩) fun d H1 n1 e1 hD => ?_
    replace hD := ds_at hD
    replace h2 := StepAt.up e1 h2
    have hst : ∀ {s : TSt} {H2}, s[1]? = some (some v2) → Ex H1 H2 → EvP (tVar 1) s H2 (st C p) := fun hs e => ev_var hs (StepAt.up e h2)
    refine q_ifN (b := !memB p.sup (supp (isIn b) p.s p.e)) (eb_test (ev_niU (ev_fU TC (hst rfl Ex.same)) (ev_c3 (P1 := ds (dall b)) (P2 := en p.s) (P3 := en p.e) (ea_cons (ev_ds rfl hD) (ea_cons (ev_fS TC (hst rfl Ex.same)) (ea_cons (ev_fE TC (hst rfl Ex.same)) ea_nil))) ⟨_, _, _, rfl, rfl, rfl, by rw [dall_in]⟩))) (fun hb H2 e2 => ?_) fun hb H2 e2 => ?_
    · refine s_ret (ev_bl (b := false)) fun v H3 e3 hv => q v H3 ((e1.tr e2).tr e3) ?_
      unfold holdsP
      rw [show memB p.sup (supp (isIn b) p.s p.e) = false by simpa using hb, Bool.false_and]
      exact hv
    · have hb' : memB p.sup (supp (isIn b) p.s p.e) = true := by simpa using hb
      refine q_ifN (b := memB p.s p.wit || !hangB p.wit) (eb_or (eb_test (ev_inU (ev_fS TC (hst rfl e2)) (ev_fW TC (hst rfl e2)))) fun _ => eb_not (eb_B (ev_c1 (P1 := en p.wit) (ea_cons (ev_fW TC (hst rfl e2)) ea_nil) ⟨_, .inl rfl, hwl, rfl⟩))) (fun hc H3 e3 => ?_) fun hc H3 e3 => ?_
      · refine s_ret (ev_bl (b := false)) fun v H4 e4 hv => q v H4 (((e1.tr e2).tr e3).tr e4) ?_
        unfold holdsP
        rw [hc, Bool.not_true, Bool.false_and, Bool.and_false]
        exact hv
      · have e13 := e2.tr e3
        refine q_ifN (b := !((p.wit.map fun c => isIn b c).all id)) (eb_not (eb_B (ev_allB ((en_lcT (p := fun _ => true) (f := fun c : Cell => isIn b c) (ev_fW TC (hst rfl e13)) (by omega) fun x u H' hx e hu => ⟨eb_yes, fun _ => by
          rw [← dall_is]
          exact ev_inD (ev_var rfl hu) (ev_ds rfl (hD.up (e13.tr e)))⟩).is (by rw [List.filter_eq_self.mpr fun _ _ => rfl])).li))) (fun hd H4 e4 => ?_) fun hd H4 e4 => ?_
        · refine s_ret (ev_bl (b := false)) fun v H5 e5 hv => q v H5 ((((e1.tr e2).tr e3).tr e4).tr e5) ?_
          unfold holdsP
          rw [show (p.wit.map fun c => isIn b c).all id = false by simpa using hd, Bool.false_and, Bool.and_false, Bool.and_false]
          exact hv
        · have e14 := e13.tr e4
          refine s_ret (ev_allB ((en_lcT (p := fun _ => true) (f := fun c : Cell => memB c p.wit || !isIn b c) (ev_c1 (P1 := en p.s) (ea_cons (ev_fS TC (hst rfl e14)) ea_nil) ⟨_, rfl, rfl⟩) (Nat.le_of_ble_eq_true rfl) fun x u H' hx e hu => ⟨eb_yes, fun _ => by
            rw [← dall_is]
            exact ev_orV (ev_inU (ev_var rfl hu) (ev_fW TC (hst rfl (e14.tr e)))) fun _ => ev_niD (ev_var rfl hu) (ev_ds rfl (hD.up (e14.tr e)))⟩).is (by rw [List.filter_eq_self.mpr fun _ _ => rfl])).li) fun v H5 e5 hv => q v H5 ((((e1.tr e2).tr e3).tr e4).tr e5) ?_
          unfold holdsP
          rw [hb', hc, show (p.wit.map fun c => isIn b c).all id = true by simpa using hd, Bool.not_false, Bool.true_and, Bool.true_and, Bool.true_and]
          exact hv
end
end TB
set_option Elab.async false
set_option linter.all false
set_option maxRecDepth 100000
set_option maxHeartbeats 2000000
/-! D37: changes of a tuple, are_tied. -/
namespace TB
open PySem PySem.Spec PyProof.Rows L2
section
variable {P : Program} {w : World} {K : PySem.W.Frag} {mg : Str → Option Value} {base : Heap} {C : Addr}
def spChangesT (C : Addr) : Sp := S2 fun P1 P2 Pz => ∃ (p : Paper) (cs : List Cell), P1 = st C p ∧ P2 = en cs ∧ Pz = en (memB p.s cs || memB p.e cs)
def spAreTied (C : Addr) : Sp := S2 fun P1 P2 Pz => ∃ p r : Paper, P1 = st C p ∧ P2 = st C r ∧ smallP p ∧ smallP r ∧ Pz = en ((memB p.s (sset (cellsOf r)) || memB p.e (sset (cellsOf r))) || (memB r.s (sset (cellsOf p)) || memB r.e (sset (cellsOf p))))
end
end TB
set_option Elab.async false
set_option linter.all false
set_option maxRecDepth 100000
set_option maxHeartbeats 2000000
/-! TX: enumerate over a tuple. -/
namespace PySem
open Sem (wp)
open AutoSeq1 (wpAny_loadPart')
theorem meets_enumT (l : Addr) (items : Array Value) (n : Nat) (dct : Option Addr) (sl : Array (Option Value)) :
    Meets (Builtin.«enumerate.__new__» ⟨[.type "enumerate", .ref l], []⟩) (fun _ R s => s.heap.get? l = some { cls := .type "tuple", dict := dct, data := .seq items n, slots := sl } ∧
      R (.ok (.ret (.ref (s.heap.push { cls := .type "tuple_iterator", data := .fields #[.ref l, .int 0 0] }).objs.size)))
        { s with heap := (s.heap.push { cls := .type "tuple_iterator", data := .fields #[.ref l, .int 0 0] }).push { cls := .type "enumerate", data := .fields #[.none, .bool false, .ref s.heap.objs.size, rawInt 0, .none, .none] } }) :=
  .of_wp fun prog w A R s h => by
    obtain ⟨hp, g, d, tk, os⟩ := s; obtain ⟨hl, h⟩ := h
    have hsub := sub_enumerate
    have hL : Heap.IsTuple (Shared.heap ⟨hp, g, d, tk, os⟩) l items := ⟨_, hl, rfl, n, rfl⟩
    wp_walk using wpAny_loadPart' hl
    refine wpAny_stack_any fun st => wpAny_pure ?_
    split
    · rename_i c _ _ _ _ _
      cases (c == Value.type "enumerate")
      · wp_walk using wpAny_loadPart' hl, wpAny_pyIter_tuple hL
        exact ⟨_, rfl, h⟩
      · wp_walk using wpAny_loadPart' hl, wpAny_pyIter_tuple hL
        exact ⟨_, rfl, h⟩
    · wp_walk using wpAny_loadPart' hl, wpAny_pyIter_tuple hL
      exact ⟨_, rfl, h⟩
section
variable {prog : Program} {w : World} {A : Around} {E : Value → Shared → Prop} {s : Shared}
theorem call_enumT {l : Addr} {items : Array Value} {Q : Value → Shared → Prop} (hL : s.heap.IsTuple l items)
    (h : ∀ h', IsEnum h' (s.heap.objs.size + 1) s.heap.objs.size 0 .none → h'.IsTupleIter s.heap.objs.size l 0 → h'.objs.size = s.heap.objs.size + 2 →
      (∀ b o, s.heap.get? b = some o → h'.get? b = some o) → Q (.ref (s.heap.objs.size + 1)) { s with heap := h' }) :
    wpAny (model prog w) A (call (.type "enumerate") [.ref l]) Q E s := by
  obtain ⟨⟨c, dct, dt, sl⟩, hl, hc, n, hd⟩ := hL
  replace hc : c = .type "tuple" := hc
  replace hd : dt = .seq items n := hd
  subst hc hd
  refine callType_new F.called_enumerate (by decide) (F.typeCall_enumerate_1 _) (F.newCall_enumerate_1 _) (fun obj => F.args_object_init_2 obj _) F.entry_enumerate_new
    (meets_enumT l items n dct sl) ⟨hl, ?_⟩
  have hz : (s.heap.push { cls := .type "tuple_iterator", data := .fields #[.ref l, .int 0 0] }).objs.size = s.heap.objs.size + 1 := Heap.size_push ..
  show _ ∧ _
  rw [hz]
  have he : IsEnum ((s.heap.push { cls := .type "tuple_iterator", data := .fields #[.ref l, .int 0 0] }).push
      { cls := .type "enumerate", data := .fields #[.none, .bool false, .ref s.heap.objs.size, rawInt 0, .none, .none] }) (s.heap.objs.size + 1) s.heap.objs.size 0 .none := by
    have := Heap.get?_push_size (s.heap.push { cls := .type "tuple_iterator", data := .fields #[.ref l, .int 0 0] })
      (o := { cls := .type "enumerate", data := .fields #[.none, .bool false, .ref s.heap.objs.size, rawInt 0, .none, .none] }) rfl
    rw [hz] at this; exact this
  refine ⟨⟨_, he, rfl⟩, h _ he ⟨_, Heap.get?_push_of_some _ (Heap.get?_push_size _ rfl), rfl, rfl⟩ (by rw [Heap.size_push, hz]) fun b o x => Heap.get?_push_of_some _ (Heap.get?_push_of_some _ x)⟩
end
end PySem
namespace TB
open PySem PySem.Spec PyProof.Rows L2
/-- the tuple at a, each item in a new pair -/
def IteT (K : PySem.W.Frag) (a : Addr) : It :=
  ⟨fun i H => ∃ (xs : List V) (x : V), SqT K H a xs ∧ xs[i]? = some x, fun i H v H' => ∃ T x, v = .ref T ∧ H T = none ∧ H' = upd H T (.tup [.int (i : Nat), x]) ∧ ∀ xs, SqT K H a xs → xs[i]? = some x, fun i H => ∃ xs : List V, SqT K H a xs ∧ xs.length ≤ i⟩
theorem turn_enumT {P : Program} {w : World} {K : PySem.W.Frag} {elts : List Expr} {kk : Nat} {tpos : Pos} (a e it : Addr) :
    Turn P w K (.Tuple elts kk tpos) (IteT K a) [e, it] e (fun i h => (∃ old, IsEnum h e it ((i : Nat) : Int) old) ∧ h.IsTupleIter it a i ∧ e ≠ it) where
  mem := by simp
  obj := fun i h st b hb => by
    obtain ⟨⟨old, he⟩, ⟨o, ho, hc, hd⟩, _⟩ := st
    have e' : b = e ∨ b = it := by simpa using hb
    rcases e' with z | z
    · rw [z]; exact ⟨_, he, fun v q => nomatch q⟩
    · rw [z]; exact ⟨o, ho, fun v q => by rw [hd] at q; cases q⟩
  keep := fun i h h' st k => let ⟨⟨old, he⟩, hi, hne⟩ := st; ⟨⟨old, k e (by simp) _ he⟩, hi.at fun o q => k it (by simp) o q, hne⟩
  item := by
    intro X hP hw hK hc i pins s σ H E I hf st hg
    subst hP hw hK
    obtain ⟨⟨old, he⟩, hit, hne⟩ := st
    obtain ⟨xs, x, hq, hx⟩ := hg
    obtain ⟨its, rv, p, hz⟩ := I.tuple hq
    obtain ⟨u, hu, ru⟩ := rv.get hx
    have hel : e < s.heap.objs.size := Heap.lt_size he
    have hil : it < s.heap.objs.size := by obtain ⟨_, q, _⟩ := hit; exact Heap.lt_size q
    have hat : a ≠ it := fun z => by
      obtain ⟨o, q1, q2, q3⟩ := hit
      obtain ⟨o', r1, r2, _⟩ := p
      rw [z, q1] at r1
      cases r1
      rw [q2] at r2
      injection r2 with r3
      exact absurd r3 (by decide)
    have hae : a ≠ e := fun z => by
      obtain ⟨o', r1, r2, _⟩ := p
      have he' : s.heap.get? e = some _ := he
      rw [z, he'] at r1
      cases r1
      injection r2 with r3
      exact absurd r3 (by decide)
    have hlt : i < its.toArray.size := by
      have := (List.getElem?_eq_some_iff.mp hu).1
      simpa using this
    refine wpAny_pyNext_enum_itemD (Draws.tuple (prog := X.prog) (w := X.w) (A := X.A.in1) (I.ok.hd hc) it a hat its.toArray) he ⟨hit, p⟩ hlt hne (by
      intro z
      rcases List.mem_cons.mp z with z | z
      · exact hne z
      · exact hae (List.mem_singleton.mp z).symm) fun x2 h' tk hx2 ho hit' hT hsz hk => ?_
    obtain rfl : x2 = u := by
      have : its.toArray[i]? = some u := by simpa using hu
      rw [hx2] at this
      cases this
      rfl
    refine ⟨_, rfl, wpAny_letOwnedTupleGo_enum (s := { s with heap := h', toks := tk + 1 }) ho fun h'' he' sb => ?_⟩
    have hT2 : h''.get? s.heap.objs.size = some { cls := .type "tuple", data := .seq #[.int i tk, x2] } := (sb.2 _ (Nat.ne_of_gt hel)).trans hT
    have new : ObjOk X.prog X.w (upd H s.heap.objs.size (.tup [.int (i : Nat), x])) h'' s.heap.objs.size (.tup [.int (i : Nat), x]) :=
      ⟨by show 2 ≤ sizeLine; decide, [.int i tk, x2], .cons ⟨_, rfl⟩ (.cons ru .nil), ⟨_, hT2, rfl, _, rfl⟩⟩
    have I1 : Inv X pins σ (upd H s.heap.objs.size (.tup [.int (i : Nat), x])) { s with heap := h'', toks := tk + 1 } :=
      I.turnedNew (ch := [e, it]) (fun b ob hb q => (sb.2 b (fun z => hb (by simp [z]))).trans (hk b ob (fun z => hb (by simp [z])) (fun z => hb (by simp [z])) q)) hf (Nat.le_refl _) new
    refine ⟨.ref s.heap.objs.size, _, I1, rfl, ⟨_, x, rfl, I.hok.fresh (Nat.le_refl _), rfl, fun ys hy => by rw [I.tuple_inj hy hq]; exact hx⟩, ⟨⟨x2, ?_⟩, hit'.1.at fun o q => (sb.2 it (Ne.symm hne)).trans q, hne⟩, fun b hb => ?_⟩
    · have e1 : ((i + 1 : Nat) : Int) = (i : Int) + 1 := by omega
      rw [e1]; exact he'
    · have hb' : b < s.heap.objs.size := by
        have e' : b = e ∨ b = it := by simpa using hb
        rcases e' with z | z
        · rw [z]; exact hel
        · rw [z]; exact hil
      rw [upd_ne (Nat.ne_of_lt hb')]
      exact (hf b hb).1
  done := by
    intro X hP hw hK hc i pins s σ H E I hf st hg
    subst hP hw hK
    obtain ⟨⟨old, he⟩, hit, hne⟩ := st
    obtain ⟨xs, hq, hx⟩ := hg
    obtain ⟨its, rv, p, hz⟩ := I.tuple hq
    obtain ⟨f0, f1, f2, f3, f4, f5⟩ := hf it (by simp)
    have hl := rv.length
    have hno : its.toArray[i]? = none := by simp; omega
    have hh := I.ok.hd hc
    exact wpAny_pyNext_enum_endD (i := (i : Int)) (old := old) (e := e) (Draws.mk (prog := X.prog) (w := X.w) (A := X.A.in1) (it := it) (fp := [it, a]) (n := i) (P := fun _ _ => True) (St := fun j h => j = i ∧ h.IsTupleIter it a i ∧ h.IsTuple a its.toArray)
      (live := fun _ _ st => let ⟨o, ho, _⟩ := st.2.1; ⟨o, ho⟩) (frame := fun _ _ _ st hk => ⟨st.1, st.2.1.at fun o e => hk it (by simp) o e, st.2.2.at fun o e => hk a (by simp) o e⟩)
      (item := fun j s Q E hi st hQ => absurd st.1 (Nat.ne_of_lt hi)) (done := fun s Q E st hE => wpAny_nextOf_tuple_end hh st.2.1 st.2.2 hno hE)) he ⟨rfl, hit, p⟩ fun h' eb => ⟨rfl, I.turned (t' := s.toks) (fun b o hb q => eb b o hb q) f0 f1 f3 f4 f5⟩
  self := fun A i s Q E st h => let ⟨⟨_, he⟩, _⟩ := st; wpAny_pyIter_enum he h
def iEnumT (K : PySem.W.Frag) (ta : TA) : TI := fun σ H R => ta σ H fun vs H1 => ∃ a xs, vs = [.ref a] ∧ SqT K H1 a xs ∧ R (IteT K a) H1
theorem pi_enumT {X : Cx} {e : Expr} {ta : TA} {p pos tpos : Pos} {elts : List Expr} {kk : Nat} (hg : Gl X "enumerate") (hm : X.mg "enumerate" = none) (ha : PA X [e] ta) (hs : starEach [e] X.env = [(false, eval e X.env)] := by rfl) :
    PI X (.Tuple elts kk tpos) (.Call (.Name "enumerate" p) [e] [] pos) (iEnumT X.K ta) := by
  refine ⟨fun pins s σ H R I h => ?_⟩
  refine Call_ (ld_blt I hg hm boot_enumerate (PyProof.Rows.callWith_type1 (thn (ha.run pos pins s σ H _ I h) fun us s1 ⟨vs, H1, I1, r1, q1⟩ => ?_) hs rfl))
  obtain ⟨a, xs, ex, hq, q⟩ := q1
  subst ex
  cases r1 with
  | cons r rr =>
    cases rr
    cases r
    obtain ⟨its, rv, p', hz⟩ := I1.tuple hq
    refine call_enumT p' fun h' he hit hsz hk => wpAny_pyIter_enum he ?_
    have I2 : Inv X pins σ H1 { s1 with heap := h' } := I1.kept (t' := s1.toks) hk
    refine ⟨s1.heap.objs.size + 1, [s1.heap.objs.size + 1, s1.heap.objs.size], _, _, H1, rfl, I2, turn_enumT a (s1.heap.objs.size + 1) s1.heap.objs.size, ⟨⟨.none, he⟩, hit, Nat.succ_ne_self _⟩, fun b hb => ?_, q⟩
    have e' : b = s1.heap.objs.size + 1 ∨ b = s1.heap.objs.size := by simpa using hb
    have hle : s1.heap.objs.size ≤ b := by
      rcases e' with z | z
      · rw [z]; exact Nat.le_add_right _ _
      · rw [z]; exact Nat.le_refl _
    exact I1.fpOk hle (I1.hok.fresh hle)
theorem walk_enumT {K : PySem.W.Frag} {a : Addr} {xs : List V} : Walk (IteT K a) xs.length (fun H => SqT K H a xs) (YPair (fun i => some (.int (i : Nat))) (fun i => xs[i]?)) := by
  refine ⟨fun i _ hi q => ⟨xs, xs[i], q, by simp [hi]⟩, fun _ q => ⟨xs, q, Nat.le_refl _⟩, fun i H v H' _ q y => ?_⟩
  obtain ⟨T, x, h1, h2, h3, h4⟩ := y
  exact ⟨T, .int (i : Nat), x, h1, h2, h3, rfl, h4 xs q⟩
end TB
set_option Elab.async false
set_option linter.all false
set_option maxRecDepth 100000
set_option maxHeartbeats 2000000
/-! TY: tuples of items told by R; lists of plain values. -/
namespace TB
open PySem PySem.Spec PyProof.Rows L2
def TpR {α : Type} (R : Rl α) (H : Hp) (p : Addr) (xs : List α) : Prop := ∃ us, H p = some (.tup us) ∧ Paired (R.r H) us xs
theorem TpR.up {α : Type} {R : Rl α} {H H' : Hp} {p : Addr} {xs : List α} (h : TpR R H p xs) (e : Ex H H') : TpR R H' p xs := by
  obtain ⟨us, h1, h2⟩ := h
  exact ⟨us, e _ _ h1, paired_map h2 fun _ _ z => R.up e z⟩
theorem TpR.mv {α : Type} {R : Rl α} {H H' : Hp} {S : List Addr} {p : Addr} {xs : List α} (h : TpR R H p xs) (hS : ∀ a, a ∈ S → ∃ us, H a = some (.lst us)) (m : Mv S H H') : TpR R H' p xs := by
  obtain ⟨us, h1, h2⟩ := h
  exact ⟨us, m.tu _ _ h1, paired_map h2 fun _ _ z => R.mv hS m z⟩
def tr {α : Type} (R : Rl α) (xs : List α) : Pd := ⟨fun H v => ∃ p, v = .ref p ∧ TpR R H p xs, fun e ⟨p, h1, h2⟩ => ⟨p, h1, h2.up e⟩⟩
theorem en_tr {α : Type} [DecidableEq α] [Enc α] {H : Hp} {v : V} {xs : List α} (h : En H v xs) : (tr (enR α) xs).p H v := by
  obtain ⟨a, us, h1, h2, h3⟩ := h
  exact ⟨a, h1, us, h2, h3⟩
theorem lr_li {α : Type} [DecidableEq α] [Enc α] {H : Hp} {v : V} {xs : List α} (h : (lr (enR α) xs).p H v) : (li xs).p H v := h
section
variable {K : PySem.W.Frag} {s : TSt} {H : Hp} {ta tb tl te td tk tv : TE} {tt : TT} {D : Ends} {u tu : TS} {α β : Type} {R : Rl α} {R2 : Rl β} {C : Addr} {p : Paper}
theorem ev_ixRT {xs : List α} {i : Int} {x : α} (ha : EvP ta s H (tr R xs)) (hb : EvP tb s H (en i)) (h : atI xs i = some x) : EvP (tOp (rIxT K) ta tb) s H (rp R x) := fun H1 e Q q =>
  ha H1 e _ fun v H2 e2 hv => hb H2 (e.tr e2) _ fun w H3 e3 hw => by
    obtain ⟨p, rfl, us, h1, h2⟩ := (tr R xs).up e3 hv
    unfold atI at h
    cases hj : ixN xs.length i with
    | none =>
      rw [hj] at h
      cases h
    | some j =>
      rw [hj] at h
      obtain ⟨u, g1, g2⟩ := paired_get h2 h
      refine ⟨p, us, i, u, rfl, hw, .inl (.inl h1), ?_, q _ H3 (e2.tr e3) g2⟩
      unfold atI
      rw [h2.length, hj]
      exact g1
theorem ev_lenRT {xs : List α} {r : List V → Hp → VK → Prop} (hr : r = fun xs H Q => ∃ p ys, xs = [V.ref p] ∧ (SqL K H p ys ∨ SqT K H p ys) ∧ Q (.int ys.length) H) (ha : EvP ta s H (tr R xs)) : EvP (tCB r (tCons ta tNil)) s H (en (xs.length : Int)) := fun H1 e Q q =>
  ha H1 e _ fun v H2 e2 hv => by
    obtain ⟨p, rfl, us, h1, h2⟩ := hv
    subst hr
    exact ⟨p, us, rfl, .inr (.inl (.inl h1)), q _ H2 e2 (by rw [h2.length]; exact rfl)⟩
/-- [e for x in t], t a tuple, what e makes told by R2 -/
theorem ew_lcRT {i : Nat} {vs : List Nat} {xs : List α} {f : α → β} (h : EvP tl s H (tr R xs)) (hl : xs.length ≤ 1000000)
    (hb : ∀ x u H', x ∈ xs → Ex H H' → R.r H' u x → EvP te ((wipe s vs).set i (some u)) H' (rp R2 (f x)))
    (hw : ∀ u, wipe ((wipe s vs).set i (some u)) vs = wipe s vs := by intro u; rfl) : EvW (tLc (iTup K tl) (gName i) tYes te vs) s H (lr R2 (xs.map f)) := fun H1 e Q q =>
  h H1 e _ fun v H2 e2 ⟨a, ev, us, ha, hp⟩ => by
    subst ev
    refine ⟨a, rfl, ⟨us, .inl (.inl ha)⟩, fun D hD => lc_tup (K := K) (a := a) (xs := us) (fun i H' => Ex H2 H' ∧ LsR R2 H' D ((xs.take i).map f)) ⟨Ex.new hD, [], upd_same, .nil⟩ (fun i H' _ I => .inl (.inl (I.1 _ _ ha))) (fun i u H' hu I => ?_) fun H' I => ?_⟩
    · obtain ⟨x, hx, hr⟩ := paired_getL hp hu
      refine ⟨hw u, ?_⟩
      show te _ H' _
      refine hb x u H' (List.mem_of_getElem? hx) ((e.tr e2).tr I.1) (R.up I.1 hr) H' Ex.same _ fun y H4 e4 hy => ?_
      obtain ⟨acc, g1, g2⟩ := I.2.up e4
      have b : Bt D H4 (upd H4 D (.lst (acc ++ [y]))) := ⟨Tu.mutL g1, fun q hq => upd_ne hq⟩
      refine ⟨acc, g1, by
        rw [g2.length, List.length_map]
        have := List.length_take_le' i xs
        exact sz_lt (by omega), (I.1.tr e4).mut hD, acc ++ [y], upd_same, ?_⟩
      rw [take_snoc hx, List.map_append]
      exact paired_app (paired_map g2 fun _ _ w => R2.bt g1 b w) (.cons (R2.bt g1 b hy) .nil)
    · rw [hp.length, List.take_length] at I
      exact q D H' (e2.back hD) (by
        obtain ⟨ws, g, _⟩ := I.2
        rw [g]
        exact fun z => by cases z) (e2.tr I.1) ⟨D, rfl, I.2⟩
/-- [e for x in xs], what e makes told as a value -/
theorem ew_lcV {i : Nat} {vs : List Nat} {xs : List α} {f : α → V} (h : EvP tl s H (lr R xs)) (hl : xs.length ≤ 1000000)
    (hb : ∀ x u H', x ∈ xs → Ex H H' → R.r H' u x → EvP te ((wipe s vs).set i (some u)) H' (va (f x)))
    (hw : ∀ u, wipe ((wipe s vs).set i (some u)) vs = wipe s vs := by intro u; rfl) : EvW (tLc (iList K tl) (gName i) tYes te vs) s H ⟨fun H v => ∃ p, v = .ref p ∧ H p = some (.lst (xs.map f)), fun e ⟨p, h1, h2⟩ => ⟨p, h1, e _ _ h2⟩⟩ := fun H1 e Q q =>
  h H1 e _ fun v H2 e2 ⟨a, ev, us, ha, hp⟩ => by
    subst ev
    refine ⟨a, rfl, ⟨us, .inl (.inl ha)⟩, fun D hD => lc_list (K := K) (a := a) (xs := us) (fun i H' => Ex H2 H' ∧ H' D = some (.lst ((xs.take i).map f))) ⟨Ex.new hD, upd_same⟩ (fun i H' _ I => .inl (.inl (I.1 _ _ ha))) (fun i u H' hu I => ?_) fun H' I => ?_⟩
    · obtain ⟨x, hx, hr⟩ := paired_getL hp hu
      refine ⟨hw u, ?_⟩
      show te _ H' _
      refine hb x u H' (List.mem_of_getElem? hx) ((e.tr e2).tr I.1) (R.up I.1 hr) H' Ex.same _ fun y H4 e4 hy => ?_
      obtain rfl : y = f x := hy
      refine ⟨_, e4 _ _ I.2, by
        rw [List.length_map]
        have := List.length_take_le' i xs
        exact sz_lt (by omega), (I.1.tr e4).mut hD, ?_⟩
      rw [take_snoc hx, List.map_append]
      exact upd_same
    · rw [hp.length, List.take_length] at I
      exact q D H' (e2.back hD) (by
        rw [I.2]
        exact fun z => by cases z) (e2.tr I.1) ⟨D, rfl, I.2⟩
/-- tuple(xs) -/
theorem ev_tupleR {xs : List α} {r : List V → Hp → VK → Prop} (hr : r = fun xs H Q => ∃ p ys, xs = [V.ref p] ∧ ((SqL K H p ys ∧ ∀ l, H l = none → Q (.ref l) (upd H l (.tup ys))) ∨ (SqT K H p ys ∧ Q (.ref p) H))) (ha : EvP ta s H (lr R xs)) : EvP (tCB r (tCons ta tNil)) s H (tr R xs) := fun H1 e Q q =>
  ha H1 e _ fun v H2 e2 hv => by
    obtain ⟨p, rfl, us, h1, h2⟩ := hv
    subst hr
    exact ⟨p, us, rfl, .inl ⟨.inl (.inl h1), fun l hl => q _ _ (e2.tr (Ex.new hl)) ⟨l, rfl, us, upd_same, paired_map h2 fun _ _ z => R.up (Ex.new hl) z⟩⟩⟩
theorem ev_isTR {xs : List α} {tx : TE} {c : String} {b : Bool} (hx : EvP tx s H (tr R xs)) (h : PySem.W.kitOne K (.type "tuple") (.type c) = some b) : EvP (tCB (rIsi K) (tCons tx (tCons (tC (.ty c)) tNil))) s H (en b) := fun H1 e Q q =>
  hx H1 e _ fun v H2 e2 hv => by
    obtain ⟨a, rfl, us, h1, _⟩ := hv
    exact ⟨.ref a, .ty c, .type "tuple", .type c, b, rfl, .ty c, .base (.tup h1), h, q _ H2 e2 rfl⟩
/-- for i, x in enumerate(t), t a tuple -/
theorem q_forET {xs : List α} {i j : Nat} {a : Addr} (S : List Addr) (hl : TpR R H a xs) (h : EvP tl s H (va (.ref a))) (hn : a ∉ S) (hS : ∀ b, b ∈ S → ∃ us, H b = some (.lst us)) (k : ∀ H1, Ex H H1 → ∃ Pv : Nat → TSt → Hp → Prop, Pv 0 s H1 ∧ (∀ n s' H', Pv n s' H' → Mv S H1 H') ∧
      (∀ n x v s' H' H'', xs[n]? = some x → R.r H'' v x → Ex H' H'' → Pv n s' H' → tu (turnEnds { D with nx := u D } Pv n) ((s'.set i (some (.int (n : Int)))).set j (some v)) H'') ∧ (∀ s' H', Pv xs.length s' H' → u D s' H')) : tSeq (tFor (iEnumT K (tCons tl tNil)) (gTup K 2 (gCons (gName i) (gCons (gName j) gNil))) tu) u D s H :=
  h H Ex.same _ fun w H1 e hw => by
    obtain rfl : w = .ref a := hw
    obtain ⟨us, ha, hp⟩ := hl.up e
    obtain ⟨Pv, h0, ht, hs, hd⟩ := k H1 e
    have hS1 : ∀ b, b ∈ S → ∃ us, H1 b = some (.lst us) := fun b hb => by
      obtain ⟨ws, q⟩ := hS b hb
      exact ⟨ws, e _ _ q⟩
    refine ⟨a, us, rfl, .inl (.inl ha), for_it (walk_enumT (K := K) (a := a) (xs := us)) Pv h0 (fun n s' H' _ P => .inl (.inl ((ht n s' H' P).ch _ _ hn ha))) (fun n x s' H' H'' hlt P y => ?_) fun s' H' P => hd s' H' (by rw [← hp.length]; exact P)⟩
    obtain ⟨T, z1, z2, rfl, nT, rfl, f1, f2⟩ := y
    obtain rfl : z1 = .int (n : Int) := (Option.some.inj f1).symm
    obtain ⟨x, hx, hr⟩ := paired_getL hp f2
    refine ⟨T, [.int (n : Int), z2], rfl, .inl (.inl upd_same), rfl, _, [z2], rfl, _, [], rfl, rfl, ?_⟩
    exact hs n x z2 s' H' _ hx (R.up (Ex.new nT) (R.mv hS1 (ht n s' H' P) hr)) (Ex.new nT) P
/-- {x: k for k, x in enumerate(t)}, t a tuple -/
theorem ev_dcET {i j : Nat} {vs : List Nat} {xs : List Int} (h : EvP tl s H (en xs)) (hl : xs.length ≤ 1000) (hn : xs.Nodup) (hw : ∀ u w, wipe (((wipe s vs).set i (some u)).set j (some w)) vs = wipe s vs)
    (hi : ∀ u w, (((wipe s vs).set i (some u)).set j (some w))[i]? = some (some u)) (hj : ∀ u w, (((wipe s vs).set i (some u)).set j (some w))[j]? = some (some w)) : EvP (tDc (iEnumT K (tCons tl tNil)) (gTup K 2 (gCons (gName i) (gCons (gName j) gNil))) tYes (tVar j) (tVar i) vs) s H (plP xs) := fun H1 e Q q =>
  h H1 e _ fun v H2 e2 ⟨a, us, ev, ha, hp⟩ => by
    subst ev
    refine ⟨a, us, rfl, .inl (.inl ha), fun D hD => ?_⟩
    refine ⟨fun k m H' => m = us.length - k ∧ k ≤ us.length ∧ Ex H2 H' ∧ ∃ kvs, H' D = some (.dK kvs) ∧ kvs.length ≤ k ∧ ∀ (n : Nat) (x : Int), n < k → xs[n]? = some x → valV kvs (.inl x) = some (.int (n : Int)), ⟨us.length, by simp, Nat.zero_le _, Ex.new hD, [], upd_same, Nat.le_refl _, fun n x hn => by omega⟩, fun k m H' ⟨em, hk, eX, kvs, hDs, hkl, hval⟩ => ?_⟩
    subst em
    have hul := hp.length
    by_cases hlt : k < us.length
    · refine .inr ⟨⟨us, us[k], .inl (.inl (eX _ _ ha)), by simp [hlt]⟩, fun H' => Ex H2 H' ∧ ∃ kvs, H' D = some (.dK kvs) ∧ kvs.length ≤ k + 1 ∧ ∀ (n : Nat) (x : Int), n < k + 1 → xs[n]? = some x → valV kvs (.inl x) = some (.int (n : Int)), fun H' N => ⟨us.length - (k + 1), by omega, rfl, hlt, N⟩, fun x H'' y => ?_⟩
      obtain ⟨T, z, rfl, nT, rfl, y⟩ := y
      have hx : us[k]? = some z := y us (.inl (.inl (eX _ _ ha)))
      obtain ⟨c, hc, hr⟩ := paired_getL hp hx
      obtain rfl : z = .int c := hr
      have eT := Ex.new (o := HO.tup [V.int (k : Int), V.int c]) nT
      refine ⟨T, [.int (k : Int), .int c], rfl, .inl (.inl upd_same), rfl, _, [.int c], rfl, _, [], rfl, rfl, hw _ _, raw_yes ⟨_, hj _ _, _, hi _ _, kvs, .inl c, rfl, eT _ _ hDs, sz_lt (by omega), (eX.tr eT).mut hD, _, upd_same, ?_, fun n x hn' hx' => ?_⟩⟩
      · have := length_putK kvs (.inl c) (.int (k : Int))
        omega
      · rw [valV_put]
        by_cases e0 : x = c
        · subst e0
          have := nodup_at hn hx' hc
          subst this
          rw [if_pos rfl]
        · rw [if_neg fun z => e0 (Sum.inl.inj z)]
          refine hval n x ?_ hx'
          rcases Nat.lt_or_ge n k with q | q
          · exact q
          · have : n = k := by omega
            subst this
            rw [hc] at hx'
            cases hx'
            exact absurd rfl e0
    · have hk' : k = us.length := by omega
      subst hk'
      exact .inl ⟨⟨us, .inl (.inl (eX _ _ ha)), Nat.le_refl _⟩, q _ H' (e2.tr eX) ⟨D, kvs, rfl, hDs, fun n x hx => hval n x (by have := (List.getElem?_eq_some_iff.mp hx).1; omega) hx⟩⟩
end
end TB
set_option Elab.async false
set_option linter.all false
set_option maxRecDepth 100000
set_option maxHeartbeats 4000000
/-! D38: ties_of, waits_of of a tuple of steps; first_broken of a tuple. -/
namespace TB
open PySem PySem.Spec PyProof.Rows L2
section
variable {K : PySem.W.Frag} {s : TSt} {H : Hp} {ta tb tl te : TE} {D : Ends} {u tu : TS} {α : Type} {R : Rl α}
/-- [[] for x in xs] -/
theorem q_asgLLT {i k : Nat} {vs : List Nat} {xs : List α} (h : EvP tl s H (tr R xs)) (hl : xs.length ≤ 1000000) (hw : ∀ u, wipe ((wipe s vs).set i (some u)) vs = wipe s vs)
    (kk : ∀ p as H1, Ex H H1 → H p = none → (∀ a, a ∈ as → H a = none) → LL H1 p as (xs.map fun _ => []) → u D (s.set k (some (.ref p))) H1) : tSeq (tAsg (tLc (iTup K tl) (gName i) tYes (tLst tNil) vs) (gName k)) u D s H :=
  h H Ex.same _ fun v H2 e2 ⟨a, ev, us, ha, hp⟩ => by
    subst ev
    refine ⟨a, rfl, ⟨us, .inl (.inl ha)⟩, fun D' hD => lc_tup (K := K) (a := a) (xs := us) (fun i H' => Ex H2 H' ∧ ∃ as, (∀ a, a ∈ as → H2 a = none) ∧ LL H' D' as ((xs.take i).map fun _ => [])) ⟨Ex.new hD, [], fun a ha => absurd ha List.not_mem_nil, upd_same, .nil, List.nodup_nil, List.not_mem_nil⟩ (fun i H' _ I => .inl (.inl (I.1 _ _ ha))) (fun i x H' hu I => ?_) fun H' I => ?_⟩
    · obtain ⟨y, hy, _⟩ := paired_getL hp hu
      obtain ⟨eX, as, hn, hL⟩ := I
      refine ⟨hw x, raw_yes ⟨Nat.zero_le _, fun q hq => ?_⟩⟩
      have hL2 := hL.up (Ex.new (o := HO.lst []) hq)
      have hqD : D' ≠ q := fun z => by
        have := hL.at'
        rw [z, hq] at this
        cases this
      have hqas : q ∉ as := fun z => by
        obtain ⟨i, hi, e⟩ := List.getElem_of_mem z
        obtain ⟨xs, h1, h2⟩ := paired_getL hL.each (by rw [List.getElem?_eq_getElem hi, e])
        exact h2.nn hq
      have bD : Bt D' (upd H' q (.lst [])) (upd (upd H' q (.lst [])) D' (.lst (as.map V.ref ++ [.ref q]))) := ⟨Tu.mutL hL2.at', fun r hr => upd_ne hr⟩
      refine ⟨as.map V.ref, hL2.at', by
        rw [List.length_map, hL.len, List.length_map]
        have := List.length_take_le' i xs
        exact sz_lt (by omega), (eX.tr (Ex.new hq)).mut hD, as ++ [q], fun b hb => ?_, ?_, ?_, ?_, ?_⟩
      · rcases List.mem_append.mp hb with h | h
        · exact hn b h
        · rw [List.mem_singleton.mp h]
          exact eX.back hq
      · rw [upd_same, List.map_append]
        rfl
      · rw [take_snoc hy, List.map_append]
        have key : ∀ {as : List Addr} {xss : List (List Int)}, Paired (fun a xs => Ls (upd H' q (.lst [])) a xs) as xss → D' ∉ as → Paired (fun a xs => Ls (upd (upd H' q (.lst [])) D' (.lst (as.map V.ref ++ [.ref q]))) a xs) as xss → True := fun _ _ _ => trivial
        clear key
        have key : ∀ {as' : List Addr} {xss : List (List Int)}, Paired (fun a xs => Ls (upd H' q (.lst [])) a xs) as' xss → D' ∉ as' → Paired (fun a xs => Ls (upd (upd H' q (.lst [])) D' (.lst (as.map V.ref ++ [.ref q]))) a xs) as' xss := by
          intro as' xss h hs
          induction h with
          | nil => exact .nil
          | cons x _ ih => exact .cons (x.but (fun z => hs (by rw [← z]; exact List.mem_cons_self)) bD) (ih fun z => hs (List.mem_cons_of_mem _ z))
        exact paired_app (key hL2.each hL2.no) (.cons (Ls.but ⟨[], upd_same, .nil⟩ hqD.symm bD) .nil)
      · rw [List.nodup_append]
        refine ⟨hL.nd, by simp, fun c hc d hd e => hqas ?_⟩
        rw [List.mem_singleton.mp hd] at e
        rw [← e]
        exact hc
      · intro z
        rcases List.mem_append.mp z with h | h
        · exact hL.no h
        · exact hqD (List.mem_singleton.mp h)
    · obtain ⟨eX, as, hn, hL⟩ := I
      rw [hp.length, List.take_length] at hL
      exact kk D' as H' (e2.tr eX) (e2.back hD) (fun a ha => e2.back (hn a ha)) hL
end
section
variable {P : Program} {w : World} {K : PySem.W.Frag} {mg : Str → Option Value} {base : Heap} {C : Addr}
theorem ev_isU2 {s : TSt} {H : Hp} {tx : TE} {α : Type} [DecidableEq α] [Enc α] {xs : List α} {c d : String} {b : Bool} (hx : EvP tx s H (en xs)) (h : PySem.W.kitAny K (.type "tuple") [.type c, .type d] = some b) :
    EvP (tCB (rIsiT K) (tCons tx (tCons (tTup (tCons (tC (.ty c)) (tCons (tC (.ty d)) tNil))) tNil))) s H (en b) := fun H1 e Q q =>
  hx H1 e _ fun v H2 e2 hv => ⟨by show 2 ≤ sizeLine; decide, fun p hp => by
    obtain ⟨a, us, rfl, h1, _⟩ := en_up (Ex.new hp) hv
    exact ⟨.ref a, p, _, .type "tuple", _, b, rfl, upd_same, .cons (.ty c) (.cons (.ty d) .nil), .base (.tup h1), h, q _ _ (e2.tr (Ex.new hp)) rfl⟩⟩
def spIsListT : Sp := S1 fun P1 Pz => ∃ xs : List Int, P1 = en xs ∧ Pz = en true
def spTiesOfT (C : Addr) : Sp := S1 fun P1 Pz => ∃ ps : List Paper, P1 = tr (stR C) ps ∧ ps.length ≤ 100 ∧ (∀ p, p ∈ ps → smallP p) ∧ Pz = en (tiesP ps)
def spWaitsT (C : Addr) : Sp := fun vs H Q _ => ∃ v ps, vs = [v] ∧ (tr (stR C) ps).p H v ∧ ps.length ≤ 100 ∧ (∀ p, p ∈ ps → smallP p) ∧
  ∀ p as xss H', Ex H H' → H p = none → (∀ a, a ∈ as → H a = none) → LL H' p as xss → xss.length = ps.length → (∀ (j : Nat) (i : Int), i ∈ xss[j]?.getD [] ↔ (i, (j : Int)) ∈ tiesP ps) → (∀ xs, xs ∈ xss → xs.length ≤ 10000) → Q (.ref p) H'
def spBrokenT (C : Addr) : Sp := S2 fun P1 P2 Pz => ∃ (ps : List Paper) (order : List Int), P1 = lr (stR C) ps ∧ P2 = en order ∧ ps.length ≤ 100 ∧ (∀ p, p ∈ ps → smallP p) ∧ Keeps ps order ∧ Pz = nn
end
end TB
set_option Elab.async false
set_option linter.all false
set_option maxRecDepth 100000
set_option maxHeartbeats 2000000
/-! M6: orders that are drawn, chosen by numbers; what holds of steps in an order. -/
namespace TB
open PySem PySem.Spec PyProof.Rows L2
theorem okPlan_pre {b : List Cell} {pl : List (Cell × Cell)} (h : okPlan b pl = true) (k : Nat) : okPlan b (pl.take k) = true := by
  have h1 : ∀ (pl r : List (Cell × Cell)) (b : List Cell), okPlan b (pl ++ r) = true → okPlan b pl = true := fun pl r => by
    induction r using snocInd with
    | h0 => intro b h; rwa [List.append_nil] at h
    | h1 r x ih =>
      intro b h
      rw [← List.append_assoc, okPlan_snoc, Bool.and_eq_true] at h
      exact ih b h.1
  exact h1 (pl.take k) (pl.drop k) b (by rw [List.take_append_drop]; exact h)
def mvOf (p : Paper) : Cell × Cell := (p.s, p.e)
def pms (ps : List Paper) : List (Cell × Cell) := ps.map mvOf
theorem pms_at {ps : List Paper} {t : Nat} {p : Paper} (h : ps[t]? = some p) : (pms ps)[t]? = some (p.s, p.e) := by
  unfold pms
  rw [List.getElem?_map, h]
  rfl
/-- all steps are moves and hold at their turns -/
def Sound (b : List Cell) (qs : List Paper) : Prop := okPlan b (pms qs) = true ∧ ∀ t p, qs[t]? = some p → holdsP (endB b ((pms qs).take t)) p = true
def atP (ps : List Paper) (x : Int) : Paper := ps[x.toNat]?.getD ⟨(0, 0), (0, 0), [], []⟩
def ordP (ps : List Paper) (order : List Int) : List Paper := order.map (atP ps)
/-- what the steps find at their turns -/
noncomputable def seenOf (b : List Cell) (qs : List Paper) (t : Nat) : List Bool := match qs[t]? with
  | some p => (sset (cellsOf p)).map (isIn (endB b ((pms qs).take t)))
  | none => []
noncomputable def seens (b : List Cell) (qs : List Paper) : List (List Bool) := (List.range qs.length).map (seenOf b qs)
theorem supp_stay_in {q q' : Cell → Bool} {s e : Cell} {sup : List Cell} {r : List (List Cell)} (h : supp q s e = sup :: r) (hs : q' s = q s) (he : q' e = q e) (hn : ∀ z, z ∈ nbs s → q' z = q z) (hu : ∀ z, z ∈ sup → q' z = q z) : sup ∈ supp q' s e := by
  obtain ⟨⟨a1, a2, hm⟩, hc⟩ := supp_cases h
  obtain ⟨hi, hj, hij⟩ := ab_le hm
  unfold supp
  rw [if_neg (by rw [hs, he, a1, a2, hm]; simp)]
  rcases hc with ⟨h1, h2, h3, h4⟩ | ⟨h1, g, hg, k1, k2, hsup⟩
  · rw [if_pos (by simp [h1, h2])]
    have m1 : (e.1, s.2) ∈ nbs s := by
      simp only [nbs, List.mem_cons, Prod.mk.injEq, List.not_mem_nil, or_false, true_and, and_true]
      omega
    have m2 : (s.1, e.2) ∈ nbs s := by
      simp only [nbs, List.mem_cons, Prod.mk.injEq, List.not_mem_nil, or_false, true_and, and_true]
      omega
    rw [hn _ m1, hn _ m2, if_pos (by simpa using h3), h4, List.mem_singleton]
    split <;> rfl
  · rw [if_neg (by simp only [Bool.and_eq_true, Bool.not_eq_true', decide_eq_false_iff_not]; omega)]
    have u1 : (s.1 + g * (e.2 - s.2), s.2 + g * (e.1 - s.1)) ∈ sup := by
      rw [hsup, srt_mem]
      exact List.mem_cons_self
    have u2 : (e.1 + g * (e.2 - s.2), e.2 + g * (e.1 - s.1)) ∈ sup := by
      rw [hsup, srt_mem]
      exact List.mem_cons_of_mem _ List.mem_cons_self
    have hin : g ∈ [1, -1].filter fun g : Int => q' (s.1 + g * (e.2 - s.2), s.2 + g * (e.1 - s.1)) && q' (e.1 + g * (e.2 - s.2), e.2 + g * (e.1 - s.1)) := by
      refine List.mem_filter.mpr ⟨by simpa using hg, ?_⟩
      rw [hu _ u1, hu _ u2, k1, k2]
      rfl
    have hin2 := srt_mem.mpr (List.mem_map_of_mem (f := fun g => srt [(s.1 + g * (e.2 - s.2), s.2 + g * (e.1 - s.1)), (e.1 + g * (e.2 - s.2), e.2 + g * (e.1 - s.1))]) hin)
    rw [hsup]
    exact hin2
/-- a paper that was right is right wherever all that it reads is as it was -/
theorem holdsP_stay {B B' : List Cell} {m : Cell × Cell} {p : Paper} (ok : PapOk B m p) (h : ∀ c, c ∈ cellsOf p → isIn B' c = isIn B c) : holdsP B' p = true := by
  obtain ⟨r, hr⟩ := ok.sup
  rw [← ok.s, ← ok.e] at hr
  have hw := ok.wit
  rw [← ok.s] at hw
  have h1 : p.sup ∈ supp (isIn B') p.s p.e := supp_stay_in hr (h _ (cells_s p)) (h _ (cells_e p)) (fun z hz => h z (cells_n hz)) fun z hz => h z (cells_u hz)
  unfold holdsP
  rw [Bool.and_eq_true, Bool.and_eq_true, Bool.and_eq_true, memB_iff]
  refine ⟨h1, ?_, ?_, ?_⟩
  · rw [Bool.not_eq_true', Bool.or_eq_false_iff]
    refine ⟨?_, by rw [hangB_iff.mpr hw.hang]; rfl⟩
    cases hz : memB p.s p.wit with
    | false => rfl
    | true => exact absurd rfl (mem_rest.mp (hw.sub _ (memB_iff.mp hz))).2
  · rw [List.all_map, List.all_eq_true]
    intro c hc
    show isIn B' c = true
    rw [h c (cells_w hc)]
    exact decide_eq_true (mem_rest.mp (hw.sub c hc)).1
  · rw [List.all_map, List.all_eq_true]
    intro c hc
    show (memB c p.wit || !isIn B' c) = true
    rw [h c (cells_n hc)]
    cases hz : isIn B c with
    | false => exact Bool.or_true _
    | true =>
      rw [memB_iff.mpr (hw.near c hc (of_decide_eq_true hz))]
      rfl
section
variable {b : List Cell} {pl : List (Cell × Cell)} {ps : List Paper} {order : List Int}
theorem pms_pap (hp : IsPap b pl ps) : pms ps = pl := by
  refine List.ext_getElem? fun i => ?_
  cases hi : ps[i]? with
  | none =>
    have h1 : ps.length ≤ i := List.getElem?_eq_none_iff.mp hi
    rw [List.getElem?_eq_none (show (pms ps).length ≤ i by unfold pms; rw [List.length_map]; exact h1), List.getElem?_eq_none (by rw [← hp.1]; exact h1)]
  | some p =>
    have h1 := (List.getElem?_eq_some_iff.mp hi).1
    obtain ⟨m, hm⟩ : ∃ m, pl[i]? = some m := ⟨_, List.getElem?_eq_getElem (by rw [← hp.1]; exact h1)⟩
    rw [pms_at hi, hm, (hp.2 i m p hm hi).s, (hp.2 i m p hm hi).e]
theorem atP_at {k : Nat} {p : Paper} (h : ps[k]? = some p) : atP ps (k : Int) = p := by
  unfold atP
  rw [Int.toNat_natCast, h]
  rfl
theorem pms_ord (hp : IsPap b pl ps) (hk : Keeps ps order) : pms (ordP ps order) = inOrder pl order := by
  unfold pms ordP inOrder
  rw [List.map_map]
  refine List.map_congr_left fun x hx => ?_
  obtain ⟨h1, h2⟩ := mem_rng.mp (hk.perm.mem_iff.mp hx)
  obtain ⟨p, hpk⟩ : ∃ p, ps[x.toNat]? = some p := ⟨_, List.getElem?_eq_getElem (by omega)⟩
  obtain ⟨m, hm⟩ : ∃ m, pl[x.toNat]? = some m := ⟨_, List.getElem?_eq_getElem (by have := hp.1; omega)⟩
  have ok := hp.2 _ m p hm hpk
  show ((atP ps x).s, (atP ps x).e) = _
  unfold atP
  rw [hpk, hm]
  show (p.s, p.e) = m
  rw [ok.s, ok.e]
theorem keep_at (hk : Keeps ps order) {t : Nat} {q : Paper} (h : (ordP ps order)[t]? = some q) : ∃ k : Nat, order[t]? = some (k : Int) ∧ ps[k]? = some q := by
  unfold ordP at h
  rw [List.getElem?_map] at h
  cases ho : order[t]? with
  | none =>
    rw [ho] at h
    cases h
  | some x =>
    rw [ho] at h
    obtain ⟨h1, h2⟩ := mem_rng.mp (hk.perm.mem_iff.mp (List.mem_of_getElem? ho))
    obtain ⟨k, rfl⟩ : ∃ k : Nat, x = (k : Int) := ⟨x.toNat, by omega⟩
    obtain ⟨p, hpk⟩ : ∃ p, ps[k]? = some p := ⟨_, List.getElem?_eq_getElem (by omega)⟩
    refine ⟨k, rfl, ?_⟩
    have h : some (atP ps (k : Int)) = some q := h
    rw [atP_at hpk] at h
    rw [hpk, h]
/-- in an order that keeps the ties all steps hold at their turns -/
theorem sound_ord (hb : Hang b) (hok : okPlan b pl = true) (hp : IsPap b pl ps) (hn : b.Nodup) (hk : Keeps ps order) : Sound b (ordP ps order) := by
  refine ⟨?_, fun t q hq => ?_⟩
  · rw [pms_ord hp hk]
    exact (order_all hb hn hok hp hk).1
  · obtain ⟨k, ho, hpk⟩ := keep_at hk hq
    obtain ⟨m, hm⟩ : ∃ m, pl[k]? = some m := ⟨_, List.getElem?_eq_getElem (by have := (List.getElem?_eq_some_iff.mp hpk).1; have := hp.1; omega)⟩
    rw [pms_ord hp hk]
    exact holdsP_stay (hp.2 k m q hm hpk) fun c hc => reads_same hp hk ho hpk hc
/-- .. and find what they found -/
theorem seen_ord (hp : IsPap b pl ps) (hk : Keeps ps order) : seens b (ordP ps order) = order.map fun x => (seens b ps)[x.toNat]?.getD [] := by
  refine List.ext_getElem? fun t => ?_
  unfold seens
  rw [List.getElem?_map, List.getElem?_map]
  cases ho : order[t]? with
  | none =>
    have h1 : order.length ≤ t := List.getElem?_eq_none_iff.mp ho
    rw [List.getElem?_eq_none (show (List.range (ordP ps order).length).length ≤ t by rw [List.length_range]; unfold ordP; rw [List.length_map]; exact h1)]
    rfl
  | some x =>
    have htl := (List.getElem?_eq_some_iff.mp ho).1
    obtain ⟨h1, h2⟩ := mem_rng.mp (hk.perm.mem_iff.mp (List.mem_of_getElem? ho))
    obtain ⟨k, rfl⟩ : ∃ k : Nat, x = (k : Int) := ⟨x.toNat, by omega⟩
    obtain ⟨p, hpk⟩ : ∃ p, ps[k]? = some p := ⟨_, List.getElem?_eq_getElem (by omega)⟩
    rw [List.getElem?_range (show t < (ordP ps order).length by unfold ordP; rw [List.length_map]; exact htl)]
    show some (seenOf b (ordP ps order) t) = some (((List.range ps.length).map (seenOf b ps))[((k : Int)).toNat]?.getD [])
    rw [Int.toNat_natCast, List.getElem?_map, List.getElem?_range (by omega)]
    show some (seenOf b (ordP ps order) t) = some (seenOf b ps k)
    unfold seenOf
    have hq : (ordP ps order)[t]? = some p := by
      unfold ordP
      rw [List.getElem?_map, ho]
      show some (atP ps (k : Int)) = some p
      rw [atP_at hpk]
    rw [hq, hpk]
    show some (List.map _ _) = some (List.map _ _)
    rw [pms_ord hp hk, pms_pap hp]
    congr 1
    refine List.map_congr_left fun c hc => reads_same hp hk ho hpk (mem_sset.mp hc)
theorem sound_self (hok : okPlan b pl = true) (hp : IsPap b pl ps) : Sound b ps := by
  refine ⟨by rw [pms_pap hp]; exact hok, fun t q hq => ?_⟩
  obtain ⟨m, hm⟩ : ∃ m, pl[t]? = some m := ⟨_, List.getElem?_eq_getElem (by have := (List.getElem?_eq_some_iff.mp hq).1; have := hp.1; omega)⟩
  rw [pms_pap hp]
  exact holdsP_stay (hp.2 t m q hm hq) fun c hc => rfl
end
/-! orders chosen step by step -/
def rdy (ts : List (Int × Int)) (found : List Int) (x : Int) : Bool := !memB x found && ts.all fun t => !decide (t.2 = x) || memB t.1 found
def ready (ts : List (Int × Int)) (n : Nat) (found : List Int) : List Int := (rng 0 n).filter (rdy ts found)
theorem rdy_iff {ts : List (Int × Int)} {found : List Int} {x : Int} : rdy ts found x = true ↔ x ∉ found ∧ ∀ i, (i, x) ∈ ts → i ∈ found := by
  unfold rdy
  rw [Bool.and_eq_true, Bool.not_eq_true', List.all_eq_true]
  constructor
  · rintro ⟨h1, h2⟩
    refine ⟨fun z => (by rw [memB_iff.mpr z] at h1; cases h1), fun i hi => ?_⟩
    have := h2 _ hi
    rw [decide_eq_true (rfl : ((i, x) : Int × Int).2 = x), Bool.not_true, Bool.false_or] at this
    exact memB_iff.mp this
  · rintro ⟨h1, h2⟩
    refine ⟨?_, fun t ht => ?_⟩
    · cases hz : memB x found with
      | false => rfl
      | true => exact absurd (memB_iff.mp hz) h1
    · by_cases e : t.2 = x
      · subst e
        rw [memB_iff.mpr (h2 t.1 ht), Bool.or_true]
      · rw [decide_eq_false e]
        rfl
/-- each one was ready at its turn -/
def Drawn (ts : List (Int × Int)) (n : Nat) (found : List Int) : Prop := ∀ t x, found[t]? = some x → x ∈ ready ts n (found.take t)
theorem Drawn.nil {ts : List (Int × Int)} {n : Nat} : Drawn ts n [] := fun t x h => by simp at h
theorem Drawn.snoc {ts : List (Int × Int)} {n : Nat} {found : List Int} {x : Int} (h : Drawn ts n found) (hx : x ∈ ready ts n found) : Drawn ts n (found ++ [x]) := fun t y hy => by
  by_cases e : t < found.length
  · rw [List.getElem?_append_left e] at hy
    rw [List.take_append_of_le_length (by omega)]
    exact h t y hy
  · have ht := (List.getElem?_eq_some_iff.mp hy).1
    rw [List.length_append] at ht
    have e2 : t = found.length := by
      have : ([x] : List Int).length = 1 := rfl
      omega
    subst e2
    rw [List.getElem?_append_right (Nat.le_refl _), Nat.sub_self] at hy
    have : x = y := Option.some.inj hy
    subst this
    rw [List.take_append_of_le_length (Nat.le_refl _), List.take_length]
    exact hx
theorem Drawn.pre {ts : List (Int × Int)} {n : Nat} {found : List Int} (h : Drawn ts n found) (k : Nat) : Drawn ts n (found.take k) := fun t x hx => by
  rw [List.getElem?_take] at hx
  split at hx
  · rename_i e
    have := h t x hx
    rw [List.take_take, Nat.min_eq_left (by omega)]
    exact this
  · cases hx
theorem Drawn.mem {ts : List (Int × Int)} {n : Nat} {found : List Int} (h : Drawn ts n found) {x : Int} (hx : x ∈ found) : 0 ≤ x ∧ x < (n : Int) := by
  obtain ⟨i, hi, e⟩ := List.getElem_of_mem hx
  have := h i x (by rw [List.getElem?_eq_getElem hi, e])
  have := mem_rng.mp (List.mem_filter.mp this).1
  omega
theorem Drawn.nd {ts : List (Int × Int)} {n : Nat} {found : List Int} (h : Drawn ts n found) : found.Nodup := by
  refine List.pairwise_iff_getElem.mpr fun i j hi hj hij e => ?_
  have h1 := (rdy_iff.mp (List.mem_filter.mp (h j _ (List.getElem?_eq_getElem hj))).2).1
  refine h1 (List.mem_of_getElem? (i := i) ?_)
  rw [List.getElem?_take, if_pos hij, List.getElem?_eq_getElem hi, e]
theorem Drawn.keeps {ps : List Paper} {ts : List (Int × Int)} {found : List Int} (h : Drawn ts ps.length found) (hl : found.length = ps.length) (ht : ∀ t, t ∈ tiesP ps → t ∈ ts) : Keeps ps found := by
  have hnd := h.nd
  refine ⟨?_, fun a b i j hij ha hb => ?_⟩
  · have sub : ∀ x, x ∈ found → x ∈ rng 0 ps.length := fun x hx => mem_rng.mpr (by
      have := h.mem hx
      omega)
    refine perm_nodup hnd (rng_nd _) fun x => ⟨sub x, fun hx => Classical.byContradiction fun hn => ?_⟩
    have := nodup_len (xs := x :: found) (ys := rng 0 ps.length) (List.nodup_cons.mpr ⟨hn, hnd⟩) fun y hy => by
      rcases List.mem_cons.mp hy with z | z
      · rw [z]
        exact hx
      · exact sub y z
    rw [List.length_cons, rng_len] at this
    omega
  · have h1 := (rdy_iff.mp (List.mem_filter.mp (h b j hb)).2).2 i (ht _ hij)
    obtain ⟨u, hu, eu⟩ := List.getElem_of_mem h1
    rw [List.length_take] at hu
    rw [List.getElem_take] at eu
    have := nodup_at hnd (show found[u]? = some i by rw [List.getElem?_eq_getElem (by omega), eu]) ha
    omega
theorem ready_ne {ts : List (Int × Int)} {n : Nat} {found : List Int} (h : Drawn ts n found) (hl : found.length < n) (ht : ∀ t, t ∈ ts → 0 ≤ t.1 ∧ t.1 < t.2) : ready ts n found ≠ [] := by
  -- the least one that is not there
  have hex : ∃ k : Nat, k < n ∧ (k : Int) ∉ found := by
    refine Classical.byContradiction fun hno => ?_
    have h1 := nodup_len (xs := rng 0 n) (ys := found) (rng_nd n) fun x hx => by
      obtain ⟨h1, h2⟩ := mem_rng.mp hx
      refine Classical.byContradiction fun hn => hno ⟨x.toNat, by omega, by rw [Int.toNat_of_nonneg h1]; exact hn⟩
    rw [rng_len] at h1
    omega
  have key : ∀ m k : Nat, k < m → k < n → (k : Int) ∉ found → ready ts n found ≠ [] := fun m => by
    induction m with
    | zero => intro k hk; omega
    | succ m ih =>
      intro k hk hkn hkf
      by_cases hall : ∀ j : Nat, j < k → (j : Int) ∈ found
      · intro z
        have : (k : Int) ∈ ready ts n found := List.mem_filter.mpr ⟨mem_rng.mpr ⟨by omega, by omega⟩, rdy_iff.mpr ⟨hkf, fun i hi => by
          obtain ⟨h1, h2⟩ := ht _ hi
          have h1 : 0 ≤ i := h1
          have h2 : i < (k : Int) := h2
          have := hall i.toNat (by omega)
          rwa [Int.toNat_of_nonneg h1] at this⟩⟩
        rw [z] at this
        cases this
      · obtain ⟨j, hj⟩ := Classical.not_forall.mp hall
        obtain ⟨hj1, hj2⟩ := Classical.not_imp.mp hj
        exact ih j (by omega) (by omega) hj2
  obtain ⟨k, hk1, hk2⟩ := hex
  exact key (k + 1) k (by omega) hk1 hk2
theorem ties_asc {ps : List Paper} : ∀ t, t ∈ tiesP ps → 0 ≤ t.1 ∧ t.1 < t.2 := fun t ht => by
  obtain ⟨i, j, rfl, hij, _⟩ := found_rng _ (srt_mem.mp ht)
  exact ⟨by show (0 : Int) ≤ (i : Int); omega, by show (i : Int) < (j : Int); omega⟩
/-- the one that a number chooses -/
def pickAt (r : List Int) (k : Int) : Int := r[(k % (r.length : Int)).toNat]?.getD 0
theorem pickAt_mem {r : List Int} (h : r ≠ []) (k : Int) : pickAt r k ∈ r ∧ atI r (k % (r.length : Int)) = some (pickAt r k) := by
  have hl : 0 < (r.length : Int) := by
    have := List.length_pos_iff.mpr h
    omega
  have h1 := Int.emod_nonneg k (show (r.length : Int) ≠ 0 by omega)
  have h2 := Int.emod_lt_of_pos k hl
  obtain ⟨x, hx⟩ : ∃ x, r[(k % (r.length : Int)).toNat]? = some x := ⟨_, List.getElem?_eq_getElem (by omega)⟩
  have e : pickAt r k = x := by
    unfold pickAt
    rw [hx]
    rfl
  rw [e]
  refine ⟨List.mem_of_getElem? hx, ?_⟩
  have := atI_nat hx
  rwa [Int.toNat_of_nonneg h1] at this
/-- the order that numbers choose, so many turns -/
def ob (ts : List (Int × Int)) (n : Nat) (nums : List Int) : Nat → List Int
  | 0 => []
  | t + 1 => ob ts n nums t ++ [pickAt (ready ts n (ob ts n nums t)) (nums[t]?.getD 0)]
theorem ob_len {ts : List (Int × Int)} {n : Nat} {nums : List Int} : ∀ t, (ob ts n nums t).length = t
  | 0 => rfl
  | t + 1 => by
    show (ob ts n nums t ++ [_]).length = _
    rw [List.length_append, ob_len t]
    rfl
theorem ob_drawn {ts : List (Int × Int)} {n : Nat} {nums : List Int} (ht : ∀ t, t ∈ ts → 0 ≤ t.1 ∧ t.1 < t.2) : ∀ t, t ≤ n → Drawn ts n (ob ts n nums t)
  | 0, _ => Drawn.nil
  | t + 1, h => by
    have ih := ob_drawn (nums := nums) ht t (Nat.le_of_succ_le h)
    exact ih.snoc (pickAt_mem (ready_ne ih (by rw [ob_len]; omega) ht) _).1
theorem ob_congr {ts : List (Int × Int)} {n : Nat} {nums nums' : List Int} : ∀ t, (∀ i, i < t → nums[i]?.getD 0 = nums'[i]?.getD 0) → ob ts n nums t = ob ts n nums' t
  | 0, _ => rfl
  | t + 1, h => by
    show ob ts n nums t ++ [_] = ob ts n nums' t ++ [_]
    rw [ob_congr t fun i hi => h i (by omega), h t (by omega)]
/-- the numbers choose the order -/
def NumsFor (ts : List (Int × Int)) (n : Nat) (order nums : List Int) : Prop := ∀ t x, order[t]? = some x → ∃ k, nums[t]? = some k ∧ pickAt (ready ts n (order.take t)) k = x
theorem ob_nums {ts : List (Int × Int)} {n : Nat} {order nums : List Int} (h : NumsFor ts n order nums) : ∀ t, t ≤ order.length → ob ts n nums t = order.take t
  | 0, _ => rfl
  | t + 1, ht => by
    show ob ts n nums t ++ [_] = _
    rw [ob_nums h t (by omega)]
    obtain ⟨x, hx⟩ : ∃ x, order[t]? = some x := ⟨_, List.getElem?_eq_getElem (by omega)⟩
    obtain ⟨k, hk, e⟩ := h t x hx
    rw [take_snoc hx, hk]
    show _ ++ [pickAt _ k] = _
    rw [e]
theorem ready_congr {ts ts' : List (Int × Int)} {n : Nat} {found : List Int} (h : ∀ t, t ∈ ts ↔ t ∈ ts') : ready ts n found = ready ts' n found := by
  unfold ready
  refine List.filter_congr fun x _ => ?_
  rw [Bool.eq_iff_iff, rdy_iff, rdy_iff]
  exact ⟨fun ⟨a, b⟩ => ⟨a, fun i hi => b i ((h _).mpr hi)⟩, fun ⟨a, b⟩ => ⟨a, fun i hi => b i ((h _).mp hi)⟩⟩
/-- the law's row of ties is the code's -/
theorem tiesOf_srt (ps : List Paper) : (tiesOf ps).Pairwise (fun x y => x.1 < y.1 ∨ x.1 = y.1 ∧ x.2 < y.2) := by
  have hr : ∀ (lo : Int) (n : Nat), (rng lo n).Pairwise (· < ·) := fun lo n => by
    unfold rng
    exact List.pairwise_map.mpr (List.pairwise_lt_range.imp fun {a b} h => by omega)
  unfold tiesOf
  have key : ∀ (f : Int → List Int) (xs : List Int), xs.Pairwise (· < ·) → (∀ i, (f i).Pairwise (· < ·)) → (xs.flatMap fun i => (f i).map fun j => (i, j)).Pairwise (fun x y : Int × Int => x.1 < y.1 ∨ x.1 = y.1 ∧ x.2 < y.2) := fun f xs hx hf => by
    induction xs with
    | nil => exact .nil
    | cons x r ih =>
      rw [List.flatMap_cons, List.pairwise_append]
      obtain ⟨h1, h2⟩ := List.pairwise_cons.mp hx
      refine ⟨List.pairwise_map.mpr ((hf x).imp fun {a b} h => .inr ⟨rfl, h⟩), ih h2, fun u hu v hv => ?_⟩
      obtain ⟨j, _, rfl⟩ := List.mem_map.mp hu
      obtain ⟨i, hi, hv⟩ := List.mem_flatMap.mp hv
      obtain ⟨j', _, rfl⟩ := List.mem_map.mp hv
      exact .inl (h1 i hi)
  exact key _ _ (hr _ _) fun i => (hr _ _).filter _
theorem tiesP_nd (ps : List Paper) : ∀ n, (foundOf ps n).Nodup
  | 0 => List.nodup_nil
  | n + 1 => by
    show (foundOf ps n ++ List.map _ _).Nodup
    rw [List.nodup_append]
    refine ⟨tiesP_nd ps n, List.pairwise_map.mpr (((rng_nd n).filter _).imp fun {a b} h e => h (by injection e)), fun x hx y hy e => ?_⟩
    subst e
    obtain ⟨i, j, rfl, _, hj⟩ := found_rng n hx
    obtain ⟨z, _, ez⟩ := List.mem_map.mp hy
    injection ez with _ e2
    omega
theorem tiesP_eq (ps : List Paper) : tiesP ps = tiesOf ps := by
  unfold tiesP
  have hs := tiesOf_srt ps
  have hnd : (tiesOf ps).Nodup := hs.imp fun {x y} h e => by
    subst e
    omega
  refine srt_one (perm_nodup hnd (tiesP_nd ps _) fun t => ?_) (hs.imp fun {x y} h => ?_)
  · rw [mem_tiesOf]
    unfold tiesP
    rw [srt_mem]
  · show (!(if y.1 = x.1 then decide (y.2 < x.2) else decide (y.1 < x.1))) = true
    by_cases e : y.1 = x.1
    · rw [if_pos e, decide_eq_false (by omega)]
      rfl
    · rw [if_neg e, decide_eq_false (by omega)]
      rfl
end TB
set_option Elab.async false
set_option linter.all false
set_option maxRecDepth 100000
set_option maxHeartbeats 4000000
/-! D39: first_loose, plan_of, in_order. -/
namespace TB
open PySem PySem.Spec PyProof.Rows L2
section
variable {P : Program} {w : World} {K : PySem.W.Frag} {mg : Str → Option Value} {base : Heap} {C : Addr}
abbrev s_first_loose : Stmt := topS 29
abbrev n_first_loose : List Str := ["body", "steps", "here", "at", "step"]
theorem sc_first_loose : FnScope n_first_loose ["body", "steps"] (defScope s_first_loose) := ⟨rfl, rfl, rfl, by decide +kernel, rfl, by decide +kernel, by decide +kernel⟩
def spFirstLoose (C : Addr) : Sp := S2 fun P1 P2 Pz => ∃ (b : List Cell) (qs : List Paper), P1 = en b ∧ P2 = tr (stR C) qs ∧ b.length ≤ 1000 ∧ (∀ p, p ∈ qs → p.wit.length ≤ 1000) ∧ Sound b qs ∧ Pz = nn
theorem ok_first_loose (T : Txt K mg "first_loose" "first_loose" s_first_loose ["body", "steps"]) (Z : Blt mg) (TC : ClsT K C) (C_holds : Cal P w K mg base 8 "holds" ["body", "step"] (spHoldsC C)) (C_done : Cal P w K mg base 10 "done" ["body", "start", "end"] spDoneC) : Cal P w K mg base 11 "first_loose" ["body", "steps"] (spFirstLoose C) :=
  T.cal sc_first_loose S2.len fun f cdv A outer s H vs Q E hr h => by
    obtain ⟨v1, v2, P1, P2, Pz, rfl, ⟨b, qs, rfl, rfl, hlen, hwl, hS, rfl⟩, h1, ⟨a, rfl, ha⟩, q⟩ := h
    refine ⟨_, (pss_cons (ps_set (i := 2) sc_first_loose.nd rfl (Or.inl rfl) (pv 0))
      (pss_cons (ps_for PassesOwn.never rfl (pi_enumT (by rfl) Z.enumerate (pa_cons (pv 1) pa_nil)) (pg_tup rfl (pgs_cons (pg_name (i := 3) sc_first_loose.nd rfl (Or.inl rfl)) (pgs_cons (pg_name (i := 4) sc_first_loose.nd rfl (Or.inl rfl)) pgs_nil))) (pss_cons (ps_if (pt_not (pt_val (pe_cal C_holds (hr.mono (by decide)) (pa_cons (pv 2) (pa_cons (pv 4) pa_nil))))) (pss_one (ps_ret (pv 3))) pss_nil)
      (pss_one (ps_set (i := 2) sc_first_loose.nd rfl (Or.inl rfl) (pe_cal C_done (hr.mono (by decide)) (pa_cons (pv 2) (pa_cons (pe_fld (pv 4) rfl) (pa_cons (pe_fld (pv 4) rfl) pa_nil))))))))
      (pss_one (ps_ret pe_non)))), ?_⟩
    refine q_asg (P := en b) (ev_var rfl h1) fun vh H1 e1 hvh => ?_
    refine q_forET (R := stR C) (xs := qs) [] (ha.up e1) (ev_vr rfl) List.not_mem_nil (fun b hb => absurd hb List.not_mem_nil) fun H2 e2 => ⟨fun n s' H' => ∃ vh u3 u4, s' = [some v1, some (.ref a), some vh, u3, u4] ∧ Ex H2 H' ∧ En H' vh (endB b ((pms qs).take n)), ⟨_, _, _, rfl, Ex.same, en_up e2 hvh⟩, fun n s' H' ⟨_, _, _, _, e, _⟩ => Mv.same.ex e, fun n p vp s' H' H'' hp hvp e'' ⟨vh, u3, u4, es, eX, hh⟩ => ?_, fun s' H' ⟨vh, u3, u4, es, eX, hh⟩ => ?_⟩
    · subst es
      have hm := pms_at hp
      have ok := okPlan_at hS.1 hm
      have hbl : (endB b ((pms qs).take n)).length ≤ 1000 := Nat.le_trans (endB_len (okPlan_pre hS.1 n)) hlen
      have hvp' : StepAt C H'' vp p := hvp
      refine q_ifN (b := !holdsP (endB b ((pms qs).take n)) p) (eb_not (eb_B (ev_c2 (P1 := en (endB b ((pms qs).take n))) (P2 := st C p) (ea_cons (ev_var rfl (en_up e'' hh)) (ea_cons (ev_var rfl hvp') ea_nil)) ⟨_, p, rfl, rfl, hbl, hwl p (List.mem_of_getElem? hp), rfl⟩))) (fun hb H3 e3 => ?_) fun hb H3 e3 => ?_
      · rw [hS.2 n p hp] at hb
        cases hb
      · refine s_asg (P := en (done (endB b ((pms qs).take n)) p.s p.e)) (ev_c3 (P1 := en (endB b ((pms qs).take n))) (P2 := en p.s) (P3 := en p.e) (ea_cons (ev_var rfl (en_up (e''.tr e3) hh)) (ea_cons (ev_fS TC (ev_var rfl (hvp'.up e3))) (ea_cons (ev_fE TC (ev_var rfl (hvp'.up e3))) ea_nil))) ⟨_, _, _, rfl, rfl, rfl, hbl, ok, rfl⟩) fun v H4 e4 hv => ⟨_, _, _, rfl, ((eX.tr e'').tr e3).tr e4, ?_⟩
        rw [take_snoc hm, endB_snoc]
        exact hv
    · subst es
      exact s_ret ev_non fun v H3 e3 hv => q v H3 (((e1.tr e2).tr eX).tr e3) hv
abbrev s_plan_of : Stmt := topS 30
abbrev n_plan_of : List Str := ["steps", "step"]
theorem sc_plan_of : FnScope n_plan_of ["steps"] (defScope s_plan_of) := ⟨rfl, rfl, rfl, by decide +kernel, rfl, by decide +kernel, by decide +kernel⟩
def spPlanOf (C : Addr) : Sp := S1 fun P1 Pz => ∃ ps : List Paper, P1 = tr (stR C) ps ∧ ps.length ≤ 1000 ∧ Pz = en (pms ps)
theorem ok_plan_of (T : Txt K mg "plan_of" "plan_of" s_plan_of ["steps"]) (Z : Blt mg) (TC : ClsT K C) : Cal P w K mg base 1 "plan_of" ["steps"] (spPlanOf C) :=
  T.cal sc_plan_of S1.len fun f cdv A outer s H vs Q E hr h => by
    obtain ⟨v, P1, Pz, rfl, ⟨ps, rfl, hlen, rfl⟩, hv, q⟩ := h
    refine ⟨_, (pss_one (ps_ret (pe_callTy call_tuple_of (by rfl) Z.tuple (by decide +kernel) (pa_cons (pe_lc (own := [("step", 1)]) (g := gName 1) (tt := tYes) rfl sc_plan_of.nd (pi_tup (pv 0)) (blkOk_by (N := n_plan_of) (sc := defScope s_plan_of) (by decide +kernel)) (fun _ _ _ _ _ => (pg_name (i := 1) sc_plan_of.nd rfl (Or.inl rfl))) (fun _ _ _ _ _ => pts_nil) (fun _ _ _ _ _ => (pe_tup (pa_cons (pe_fld (pv 1) rfl : PE _ _ (tFld K _ "start")) (pa_cons (pe_fld (pv 1) rfl : PE _ _ (tFld K _ "end")) pa_nil))))) pa_nil)))), ?_⟩
    refine s_ret (P := en (pms ps)) (ev_tupleL rfl ((ew_lcRT (R := stR C) (R2 := enR (Cell × Cell)) (f := mvOf) (xs := ps) (ev_var rfl hv) (by omega) (fun x u H' hx e hu => ?_) (by intro u; rfl)).p.to fun _ _ h => lr_li h)) fun v H3 e3 hv => q v H3 e3 hv
    have hu' : StepAt C H' u x := hu
    exact ev_pair (ev_fS TC (ev_var rfl hu')) (ev_fE TC (ev_var rfl hu'))
def spInOrder (C : Addr) : Sp := S2 fun P1 P2 Pz => ∃ (ps : List Paper) (order : List Int), P1 = lr (stR C) ps ∧ (P2 = li order ∨ P2 = en order) ∧ ps.length ≤ 100 ∧ (∀ p, p ∈ ps → smallP p) ∧ Keeps ps order ∧ Pz = tr (stR C) (ordP ps order)
end
end TB
set_option Elab.async false
set_option linter.all false
set_option maxRecDepth 100000
set_option maxHeartbeats 4000000
/-! D40: order_by. -/
namespace TB
open PySem PySem.Spec PyProof.Rows L2
section
variable {K : PySem.W.Frag} {s : TSt} {H : Hp} {ta te : TE}
theorem ev_atL {α : Type} [DecidableEq α] [Enc α] {a : Addr} {xs : List α} (h : EvP te s H (va (.ref a))) (hl : Ls H a xs) : EvP te s H (li xs) := fun H1 e Q q => h H1 e Q fun v H2 e2 hv => q v H2 e2 ⟨a, hv, hl.up (e.tr e2)⟩
theorem raw_asgG {te : TE} {g : TG} {u : TS} {D : Ends} {s : TSt} {H : Hp} (h : te s H fun v H1 => g v s H1 (u D)) : tSeq (tAsg te g) u D s H := h
theorem ev_int1 {i : Int} {r : List V → Hp → VK → Prop} (hr : r = fun xs H Q => (∃ i, xs = [.int i] ∧ Q (.int i) H) ∨ ∃ k : Bool, xs = [.bl k] ∧ Q (.int (if k then 1 else 0)) H) (ha : EvP ta s H (en i)) : EvP (tCB r (tCons ta tNil)) s H (en i) := fun H1 e Q q =>
  ha H1 e _ fun v H2 e2 hv => by
    obtain rfl : v = .int i := hv
    subst hr
    exact .inl ⟨i, rfl, q _ H2 e2 rfl⟩
end
/-- the waits say what the ties say -/
theorem waits_ready {ts : List (Int × Int)} {xss : List (List Int)} {n : Nat} {found : List Int} (h : ∀ (j : Nat) (i : Int), i ∈ xss[j]?.getD [] ↔ (i, (j : Int)) ∈ ts) :
    (((((rng 0 n).filter fun x => !decide (x ∈ found)).map fun x => x).filter fun x => (((xss[x.toNat]?.getD []).map fun one => decide (one ∈ found)).all id)).map fun x => x) = ready ts n found := by
  rw [List.map_id', List.map_id', List.filter_filter]
  unfold ready
  refine List.filter_congr fun x hx => ?_
  obtain ⟨h1, _⟩ := mem_rng.mp hx
  obtain ⟨k, rfl⟩ : ∃ k : Nat, x = (k : Int) := ⟨x.toNat, by omega⟩
  rw [Int.toNat_natCast, Bool.eq_iff_iff, rdy_iff, Bool.and_eq_true, List.all_map, List.all_eq_true, Bool.not_eq_true', decide_eq_false_iff_not]
  constructor
  · rintro ⟨a, b⟩
    exact ⟨b, fun i hi => of_decide_eq_true (a i ((h k i).mpr hi))⟩
  · rintro ⟨a, b⟩
    exact ⟨fun i hi => decide_eq_true (b i ((h k i).mp hi)), a⟩
section
variable {P : Program} {w : World} {K : PySem.W.Frag} {mg : Str → Option Value} {base : Heap} {C : Addr}
def spOrderBy (C : Addr) : Sp := S2 fun P1 P2 Pz => ∃ (ps : List Paper) (nums : List Int), ((P1 = lr (stR C) ps ∧ P2 = li nums) ∨ (P1 = tr (stR C) ps ∧ P2 = en nums)) ∧ ps.length ≤ 100 ∧ (∀ p, p ∈ ps → smallP p) ∧ Pz = en (ob (tiesP ps) ps.length nums ps.length)
end
end TB
set_option Elab.async false
set_option linter.all false
set_option maxRecDepth 100000
set_option maxHeartbeats 4000000
/-! D41: the law's parts and hangs of a tuple, is, holds, told_papers. -/
namespace TB
open PySem PySem.Spec PyProof.Rows L2
theorem TpR.ne_new {α : Type} {R : Rl α} {H : Hp} {p q : Addr} {xs : List α} (h : TpR R H p xs) (n : H q = none) : p ≠ q := by
  obtain ⟨us, h1, _⟩ := h
  exact ne_of_none h1 n
section
variable {K : PySem.W.Frag} {s : TSt} {H : Hp} {ta tb tx te : TE}
theorem ev_tR {α : Type} [DecidableEq α] [Enc α] {i : Nat} {a : Addr} {xs : List α} (h : s[i]? = some (some (.ref a))) (hd : TpR (enR α) H a xs) : EvP (tVar i) s H (en xs) := ev_var h (by
  obtain ⟨us, h1, h2⟩ := hd
  exact ⟨a, us, rfl, h1, h2⟩)
theorem ev_isB {b : Bool} {c : String} {r : Bool} (hx : EvP tx s H (en b)) (h : PySem.W.kitOne K (.type "bool") (.type c) = some r) : EvP (tCB (rIsi K) (tCons tx (tCons (tC (.ty c)) tNil))) s H (en r) := fun H1 e Q q =>
  hx H1 e _ fun v H2 e2 hv => by
    obtain rfl : v = .bl b := hv
    exact ⟨.bl b, .ty c, .type "bool", .type c, r, rfl, .ty c, .base (.bl b), h, q _ H2 e2 rfl⟩
theorem ev_paper {t1 t2 t3 t4 : TE} {p : Paper} (h1 : EvP t1 s H (en p.s)) (h2 : EvP t2 s H (en p.e)) (h3 : EvP t3 s H (en p.sup)) (h4 : EvP t4 s H (en p.wit)) : EvP (tTup (tCons t1 (tCons t2 (tCons t3 (tCons t4 tNil))))) s H (en p) :=
  (ev_paperX (C := fun w => w = p.wit) h1 h2 h3 (h4.to fun H v h => ⟨_, rfl, h⟩)).to fun H v ⟨x, ⟨a, b, c, d⟩, h⟩ => by
    have e : x = p := by
      cases x
      cases p
      simp only at a b c d
      rw [a, b, c, d]
    rw [← e]
    exact h
end
section
variable {P : Program} {w : World} {K : PySem.W.Frag} {mg : Str → Option Value} {base : Heap} {C : Addr}
def spPartsT : Sp := S1W fun P1 Pz => ∃ cells : List Cell, P1 = en cells ∧ cells.length ≤ 1000 ∧ Pz = liX fun pts : List (List Cell) => pts.length = 1 ↔ Hang cells
theorem ok_law_partsT (T : Txt K mg "_law_t2_parts" "_law_t2_parts" s_law_t2_parts ["_law_cells"]) (Z : Blt mg) (C_law_t2_beside : Cal P w K mg base 1 "_law_t2_beside" ["_law_cell"] spBesideL) : Cal P w K mg base 2 "_law_t2_parts" ["_law_cells"] spPartsT :=
  T.cal sc_law_t2_parts S1W.len fun f cdv A outer s H vs Q E hr h => by
    obtain ⟨v, P1, Pz, rfl, ⟨cells, rfl, hlen, rfl⟩, hv0, q⟩ := h
    obtain ⟨a, rfl, ha⟩ := en_tr hv0
    refine ⟨_, (pss_cons (ps_par (i := 1) (j := 2) rfl sc_law_t2_parts.nd rfl rfl (by decide) rfl rfl (pa_cons pe_dnewT (pa_cons (pe_lst pa_nil) pa_nil)) (by rfl))
      (pss_cons (ps_for PassesOwn.never rfl (pi_tup (pv 0)) (pg_name (i := 3) sc_law_t2_parts.nd rfl (Or.inl rfl)) (pss_one (ps_dput (ru1 hr) (pv 1) (pv 3) pe_bl rfl)))
      (pss_cons (ps_for PassesOwn.never rfl (pi_list (pe_callB (cr_sortE (a := Cell) (by decide) (ru64 hr)) (by rfl) Z.sorted (by decide +kernel) (pa_cons (pe_callTy (call_list_dT rfl) (by rfl) Z.list (by decide +kernel) (pa_cons (pv 1) pa_nil)) pa_nil))) (pg_name (i := 3) sc_law_t2_parts.nd rfl (Or.inl rfl)) (pss_one (ps_if (pt_cmp ((pc_din (ru1 hr)) (pv 3) (pv 1))) (pss_cons (ps_set (i := 4) sc_law_t2_parts.nd rfl (Or.inl rfl) (pe_lst (pa_cons (pv 3) pa_nil)))
      (pss_cons (ps_expr (pe_bm PySem.F.plainAttrs_dict PySem.F.slot_dict_pop PySem.F.type_dict_pop (mt_pop1 (ru1 hr)) (pv 1) (pa_cons (pv 3) pa_nil)))
      (pss_cons (ps_for PassesOwn.never rfl (pi_range1 (by rfl) Z.range (pa_cons (pe_callB call_len_seq (by rfl) Z.len (by decide +kernel) (pa_cons (pv 0) pa_nil)) pa_nil)) (pg_name (i := 5) sc_law_t2_parts.nd rfl (Or.inl rfl)) (pss_cons (ps_if (pt_cmpR op_eq (pv 5) (pe_callB call_len_seq (by rfl) Z.len (by decide +kernel) (pa_cons (pv 4) pa_nil)) (nomark _)) (pss_one ps_break) pss_nil)
      (pss_one (ps_for PassesOwn.never rfl (pi_list (pe_cal C_law_t2_beside (hr.mono (by decide)) (pa_cons (pe_ix ix_list (pv 4) (pv 5) (fun _ _ => rfl)) pa_nil))) (pg_name (i := 6) sc_law_t2_parts.nd rfl (Or.inl rfl)) (pss_one (ps_if (pt_cmp ((pc_din (ru1 hr)) (pv 6) (pv 1))) (pss_cons (ps_expr (pe_bm PySem.F.plainAttrs_dict PySem.F.slot_dict_pop PySem.F.type_dict_pop (mt_pop1 (ru1 hr)) (pv 1) (pa_cons (pv 6) pa_nil)))
      (pss_one (ps_expr (pe_bm PySem.F.plainAttrs_list PySem.F.slot_list_append PySem.F.type_list_append mt_append (pv 4) (pa_cons (pv 6) pa_nil))))) pss_nil))))))
      (pss_one (ps_expr (pe_bm PySem.F.plainAttrs_list PySem.F.slot_list_append PySem.F.type_list_append mt_append (pv 2) (pa_cons (pe_callTy call_tuple_of (by rfl) Z.tuple (by decide +kernel) (pa_cons (pe_callB (cr_sortE (a := Cell) (by decide) (ru64 hr)) (by rfl) Z.sorted (by decide +kernel) (pa_cons (pv 4) pa_nil)) pa_nil)) pa_nil))))))) pss_nil)))
      (pss_one (ps_ret (pv 2)))))), ?_⟩
    refine q_parWW (ew_dict (β := Bool)) (en_nil (α := List Cell)).w fun d p H1 hd hp hdp e1 hD hL => ?_
    replace hD := ds_at hD
    replace hL := li_at hL
    have had : a ≠ d := ha.ne_new hd
    have hap : a ≠ p := ha.ne_new hp
    refine q_forT (xs := cells) (ev_tR rfl (ha.up e1)) fun H2 e2 => ⟨fun i s' H' => ∃ v3, s' = [some (.ref a), some (.ref d), some (.ref p), v3, none, none, none] ∧ Mv [d] H2 H' ∧ Dc H' d (dall (cells.take i)), ⟨_, rfl, Mv.same, hD.up e2⟩, fun i s' H' ⟨_, _, m, _⟩ => m.tu, fun i x v s' H' hx hv ⟨v3, es, m, hDi⟩ => ?_, fun s' H3 ⟨v3, es, m3, hD3⟩ => ?_⟩
    · subst es
      refine s_dput' hDi (ev_bl (b := true)) (ev_vr rfl) (ev_var rfl hv) (by
        have h1 := dall_len (cells.take i)
        have h2 := List.length_take_le' i cells
        omega) fun H3 e3 H4 b hD' => ?_
      exact ⟨_, rfl, (m.ex e3).but b (.inl List.mem_cons_self), by
        rw [take_snoc hx, dall_snoc]
        exact hD'⟩
    · subst es
      rw [List.take_length] at hD3
      have hE3 : Ex H H3 := (e1.tr e2).mv m3 (no1 hd)
      have hL3 : Ls H3 p ([] : List (List Cell)) := (hL.up e2).mv (mem1 hdp.symm) m3
      refine q_forN [d, p] (xs := srt ((dall cells).map (·.1))) (en_sort (en_keys rfl (ev_ds rfl hD3)).li (.inl fun x _ => ⟨_, _, rfl⟩)) (nn2 hD3.nn hL3.nn) fun H4 e4 => ⟨fun i s' H' => ∃ v3 v4 v5 v6, s' = [some (.ref a), some (.ref d), some (.ref p), v3, v4, v5, v6] ∧ Mv [d, p] H4 H' ∧
        ∃ (m : List (Cell × Bool)) (pts : List (List Cell)), Dc H' d m ∧ Ls H' p pts ∧ PInv cells (fun x => (dget m x).isSome = true) pts.length ∧ (∀ x, x ∈ (srt ((dall cells).map (·.1))).take i → dget m x = none) ∧ m.length ≤ 1000 ∧ pts.length ≤ i,
        ⟨_, _, _, _, rfl, Mv.same, dall cells, [], hD3.up e4, hL3.up e4, PInv.start fun x => dall_mem, fun x hx => by simp at hx, Nat.le_trans (dall_len cells) hlen, Nat.le_refl _⟩, fun i s' H' ⟨_, _, _, _, _, m, _⟩ => m, fun i x v s' H' hx hv ⟨v3, v4, v5, v6, es, mv, m, pts, hm, hpts, I, hno, hml, hpl⟩ => ?_, fun s' H' ⟨v3, v4, v5, v6, es, mv, m, pts, hm, hpts, I, hno, hml, hpl⟩ => ?_⟩
      · subst es
        have hE : Ex H H' := (hE3.tr e4).mv mv (no2 hd hp)
        refine s_ifN (eb_test (ev_inD (ev_var rfl hv) (ev_ds rfl hm))) (fun hin H5 e5 => ?_) fun hout H5 e5 => ?_
        · refine q_asgN (xs := [x]) (en_lst (xs := [x]) (ea_cons (ev_var rfl (en_up e5 hv)) ea_nil)) fun p4 H6 n4 e6 hP => ?_
          refine q_dpop (hm.up (e5.tr e6)) (ev_vr rfl) (ev_var rfl (en_up (e5.tr e6) hv)) hin fun H7 e7 H8 b8 hm8 => ?_
          have hp4d : p4 ≠ d := ((hm.up e5).ne_new n4).symm
          have hp4p : p4 ≠ p := ((hpts.up e5).ne_new n4).symm
          have hP8 := (hP.up e7).but hp4d b8
          have hpts8 := (hpts.up ((e5.tr e6).tr e7)).but hdp.symm b8
          have mv8 : Mv [d, p] H4 H8 := (((mv.ex e5).ex e6).ex e7).but b8 (.inl List.mem_cons_self)
          have hp40 : H4 p4 = none := (mv.ex e5).back (mem2 hp4d hp4p) n4
          have hE8 : Ex H H8 := (hE3.tr e4).mv mv8 (no2 hd hp)
          have hp4H : H p4 = none := (hE.tr e5).back n4
          refine q_with (fun s' H' => ∃ v5 v6 part m', s' = [some (.ref a), some (.ref d), some (.ref p), some v, some (.ref p4), v5, v6] ∧ Mv [d, p4] H8 H' ∧ Dc H' d m' ∧ Ls H' p4 part ∧ Gr (fun y => (dget m y).isSome = true) x part m' 1000 ∧ ∀ y, y ∈ part → ∀ z, z ∈ nbs y → (dget m z).isSome = true → z ∈ part)
            (fun s' H' ⟨v5, v6, part, m', es, mv', hm', hP', G, hcl⟩ => ?_) fun fin => ?_
          · subst es
            have hpts' : Ls H' p pts := hpts8.mv (mem2 hdp.symm hp4p.symm) mv'
            refine s_app' (x := srt part) hpts' (ev_vr rfl) (ev_tupleL rfl (en_sort (ev_li rfl hP') (.inl fun x _ => ⟨_, _, rfl⟩)).li) (by
              have h1 := List.getElem?_eq_some_iff.mp hx
              obtain ⟨h1, _⟩ := h1
              rw [srt_len, List.length_map] at h1
              have h2 := dall_len cells
              omega) fun H9 e9 H10 b10 hpts10 => ?_
            refine ⟨_, _, _, _, rfl, ((mv8.trw mv' fun a ha => ?_).ex e9).but b10 (.inl ?_), m', pts ++ [srt part], (hm'.up e9).but hdp b10, hpts10, ?_, fun y hy => ?_, G.len, ?_⟩
            · rcases List.mem_cons.mp ha with z | z
              · exact .inl (by rw [z]; exact List.mem_cons_self)
              · rw [List.mem_singleton.mp z]
                exact .inr hp40
            · exact List.mem_cons_of_mem _ List.mem_cons_self
            · rw [List.length_append]
              exact I.next hin G.inn G.reach hcl G.left
            · rw [take_snoc hx] at hy
              cases hz : dget m' y with
              | none => rfl
              | some b =>
                have h1 := (G.left y).mp (by rw [hz]; rfl)
                rcases List.mem_append.mp hy with h2 | h2
                · have := hno y h2
                  rw [this] at h1
                  cases h1.1
                · rw [List.mem_singleton.mp h2] at h1
                  exact absurd G.inn h1.2
            · rw [List.length_append]
              exact Nat.succ_le_succ hpl
          · have G0 := Gr.start (L0 := fun y => (dget m y).isSome = true) (c0 := x) (m := m) (B := 1000) (fun y => Iff.rfl) hin hml
            refine q_forR1 (n := (cells.length : Int)) (ea_cons (ev_lenT rfl (ev_tR rfl (ha.up hE8))) ea_nil) (by omega) fun H9 e9 => ⟨fun lap s' H' => ∃ v5 v6 part m', s' = [some (.ref a), some (.ref d), some (.ref p), some v, some (.ref p4), v5, v6] ∧ Mv [d, p4] H8 H' ∧ Dc H' d m' ∧ Ls H' p4 part ∧
              Gr (fun y => (dget m y).isSome = true) x part m' 1000 ∧ Full (fun y => (dget m y).isSome = true) part lap ∧ lap ≤ part.length,
              ⟨v5, v6, [x], ddel m x, rfl, Mv.same.ex e9, hm8.up e9, hP8.up e9, G0, fun j y hj => by omega, Nat.zero_le _⟩, fun lap s' H' hlap ⟨v5, v6, part, m', es, mv', hm', hP', G, F, hle⟩ => ?_, fun s' H' ⟨v5, v6, part, m', es, mv', hm', hP', G, F, hle⟩ => fin _ _ ⟨v5, v6, part, m', es, mv', hm', hP', G, F.all ?_⟩⟩
            · subst es
              have hplen : part.length ≤ cells.length := nodup_len G.nd fun y hy => I.sub y (G.reach y hy).dst
              refine q_ifN (b := decide ((lap : Int) = part.length)) (eb_test (ev_eqI (ev_var rfl rfl) (ev_len rfl (ev_li rfl hP')))) (fun hb H10 e10 => fin _ _ ⟨_, _, part, m', rfl, mv'.ex e10, hm'.up e10, hP'.up e10, G, F.all ?_⟩) fun hb H10 e10 => ?_
              · have := of_decide_eq_true hb
                omega
              · have hne := of_decide_eq_false hb
                have hlt : lap < part.length := by omega
                obtain ⟨y, hy⟩ : ∃ y, part[lap]? = some y := ⟨_, List.getElem?_eq_getElem hlt⟩
                have hyp : y ∈ part := List.mem_of_getElem? hy
                refine s_forN [d, p4] (xs := nbs y) (ew_c1 (P1 := en y) (ea_cons (ev_ixL (ev_li rfl (hP'.up e10)) (ev_var rfl rfl) (atI_nat hy)) ea_nil) ⟨y, rfl, rfl⟩).n (nn2 (hm'.up e10).nn (hP'.up e10).nn) fun H11 e11 =>
                  ⟨fun j s2 H' => ∃ v6 part2 m2, s2 = [some (.ref a), some (.ref d), some (.ref p), some v, some (.ref p4), some (.int (lap : Int)), v6] ∧ Mv [d, p4] H11 H' ∧ Dc H' d m2 ∧ Ls H' p4 part2 ∧ Gr (fun y => (dget m y).isSome = true) x part2 m2 1000 ∧ (∃ t, part2 = part ++ t) ∧
                    ∀ z, z ∈ (nbs y).take j → (dget m z).isSome = true → z ∈ part2,
                  ⟨_, part, m', rfl, Mv.same, (hm'.up e10).up e11, (hP'.up e10).up e11, G, ⟨[], by simp⟩, fun z hz => by simp at hz⟩, fun j s2 H' ⟨_, _, _, _, mm, _⟩ => mm, fun j z u s2 H' hz hu ⟨v6, part2, m2, es, mv2, hm2, hP2, G2, ⟨t, ht⟩, hcl⟩ => ?_, fun s2 H' ⟨v6, part2, m2, es, mv2, hm2, hP2, G2, ⟨t, ht⟩, hcl⟩ => ?_⟩
                · subst es
                  refine s_ifN (eb_test (ev_inD (ev_var rfl hu) (ev_ds rfl hm2))) (fun hin2 H12 e12 => ?_) fun hout2 H12 e12 => ?_
                  · refine q_dpop (hm2.up e12) (ev_vr rfl) (ev_var rfl (en_up e12 hu)) hin2 fun H13 e13 H14 b14 hm3 => ?_
                    have hplen2 : part2.length ≤ cells.length := nodup_len G2.nd fun y hy => I.sub y (G2.reach y hy).dst
                    refine s_app' (x := z) ((hP2.up (e12.tr e13)).but hp4d b14) (ev_vr rfl) (ev_var rfl (Enc.mono b14.tu (en_up (e12.tr e13) hu))) (by omega) fun H15 e15 H16 b16 hP3 => ?_
                    refine ⟨_, part2 ++ [z], ddel m2 z, rfl, ((((mv2.ex e12).ex e13).but b14 (.inl List.mem_cons_self)).ex e15).but b16 (.inl (List.mem_cons_of_mem _ List.mem_cons_self)), (hm3.up e15).but hp4d.symm b16, hP3, G2.more (y := y) ?_ (List.mem_of_getElem? hz) hin2, ⟨t ++ [z], ?_⟩, fun r hr hl => ?_⟩
                    · rw [ht]
                      exact List.mem_append_left _ hyp
                    · rw [ht, List.append_assoc]
                    · rw [take_snoc hz] at hr
                      rcases List.mem_append.mp hr with h | h
                      · exact List.mem_append_left _ (hcl r h hl)
                      · exact List.mem_append_right _ h
                  · refine ⟨_, part2, m2, rfl, mv2.ex e12, hm2.up e12, hP2.up e12, G2, ⟨t, ht⟩, fun r hr hl => ?_⟩
                    rw [take_snoc hz] at hr
                    rcases List.mem_append.mp hr with h | h
                    · exact hcl r h hl
                    · rw [List.mem_singleton.mp h] at hl ⊢
                      refine Classical.byContradiction fun hn => ?_
                      rw [(G2.left z).mpr ⟨hl, hn⟩] at hout2
                      cases hout2
                · subst es
                  rw [List.take_length] at hcl
                  refine ⟨_, _, part2, m2, rfl, ((mv'.ex e10).ex e11).tr mv2, hm2, hP2, G2, Full.next (y := y) (by rw [ht]; exact F.more hle) (by rw [ht, List.getElem?_append_left hlt]; exact hy) hcl, ?_⟩
                  rw [ht, List.length_append]
                  omega
            · have hplen : part.length ≤ cells.length := nodup_len G.nd fun y hy => I.sub y (G.reach y hy).dst
              rw [Int.toNat_natCast]
              exact hplen
        · refine ⟨_, _, _, _, rfl, mv.ex e5, m, pts, hm.up e5, hpts.up e5, I, fun y hy => ?_, hml, Nat.le_succ_of_le hpl⟩
          rw [take_snoc hx] at hy
          rcases List.mem_append.mp hy with h | h
          · exact hno y h
          · rw [List.mem_singleton.mp h]
            cases hz : dget m x with
            | none => rfl
            | some b =>
              rw [hz] at hout
              cases hout
      · subst es
        rw [List.take_length] at hno
        refine s_ret (P := va (.ref p)) (ev_vr rfl) fun v H5 e5 hv => ?_
        obtain rfl : v = .ref p := hv
        have hE : Ex H H' := (hE3.tr e4).mv mv (no2 hd hp)
        refine q p H5 hp (hpts.up e5).nn (hE.tr e5) ⟨pts, I.done fun x hx => ?_, p, rfl, hpts.up e5⟩
        rw [hno x (srt_mem.mpr (dall_keys.mpr hx))]
        exact Bool.false_ne_true
def spHangsT : Sp := S1 fun P1 Pz => ∃ cells : List Cell, P1 = en cells ∧ cells.length ≤ 1000 ∧ Pz = en (hangB cells)
theorem ok_law_hangsT (T : Txt K mg "_law_t2_hangs" "_law_t2_hangs" s_law_t2_hangs ["_law_cells"]) (Z : Blt mg) (C_law_t2_parts : Cal P w K mg base 2 "_law_t2_parts" ["_law_cells"] spPartsT) : Cal P w K mg base 3 "_law_t2_hangs" ["_law_cells"] spHangsT :=
  T.cal sc_law_t2_hangs S1.len fun f cdv A outer s H vs Q E hr h => by
    obtain ⟨v, P1, Pz, rfl, ⟨cells, rfl, hlen, rfl⟩, hv0, q⟩ := h
    refine ⟨_, (pss_one (ps_ret (pe_cmpR op_eq (pe_callB call_len_seq (by rfl) Z.len (by decide +kernel) (pa_cons (pe_cal C_law_t2_parts (hr.mono (by decide)) (pa_cons (pv 0) pa_nil)) pa_nil)) pe_int (nomark _)))), ?_⟩
    refine s_ret (P := en (hangB cells)) ?_ fun v H1 e h => q v H1 e h
    intro H1 e Q' q'
    refine ew_c1 (P1 := en cells) (ea_cons (ev_var rfl hv0) ea_nil) ⟨cells, rfl, hlen, rfl⟩ H1 e _ fun p H2 _ _ e2 hp => ?_
    obtain ⟨pts, hpt, p', ep, us, h1, h2⟩ := hp
    cases ep
    refine ⟨p, us, rfl, .inl (.inl (.inl h1)), rfl, q' _ H2 e2 ?_⟩
    show V.bl _ = V.bl _
    rw [dec_V_int, h2.length]
    congr 1
    cases hb : hangB cells with
    | true =>
      refine decide_eq_true ?_
      have := hpt.mpr (hangB_iff.mp hb)
      omega
    | false =>
      refine decide_eq_false fun z => ?_
      have := hangB_iff.mpr (hpt.mp (by omega))
      rw [hb] at this
      cases this
def spIs : Sp := S2 fun P1 P2 Pz => ∃ a b : Bool, P1 = en a ∧ P2 = en b ∧ Pz = en (decide (a = b))
def spLawHolds : Sp := S2 fun P1 P2 Pz => ∃ (b : List Cell) (p : Paper), P1 = en b ∧ P2 = en p ∧ b.length ≤ 1000 ∧ p.wit.length ≤ 1000 ∧ Pz = en (holdsP b p)
abbrev s_law_t2_told_papers : Stmt := topS 58
abbrev n_law_t2_told_papers : List Str := ["_law_steps", "_law_step"]
theorem sc_law_t2_told_papers : FnScope n_law_t2_told_papers ["_law_steps"] (defScope s_law_t2_told_papers) := ⟨rfl, rfl, rfl, by decide +kernel, rfl, by decide +kernel, by decide +kernel⟩
def spToldPapers (C : Addr) : Sp := S1W fun P1 Pz => ∃ ps : List Paper, P1 = tr (stR C) ps ∧ ps.length ≤ 1000 ∧ Pz = li ps
theorem ok_law_told (T : Txt K mg "_law_t2_told_papers" "_law_t2_told_papers" s_law_t2_told_papers ["_law_steps"]) (Z : Blt mg) (TC : ClsT K C) : Cal P w K mg base 1 "_law_t2_told_papers" ["_law_steps"] (spToldPapers C) :=
  T.cal sc_law_t2_told_papers S1W.len fun f cdv A outer s H vs Q E hr h => by
    obtain ⟨v, P1, Pz, rfl, ⟨ps, rfl, hlen, rfl⟩, hv, q⟩ := h
    refine ⟨_, (pss_one (ps_ret (pe_lc (own := [("_law_step", 1)]) (g := gName 1) (tt := tYes) rfl sc_law_t2_told_papers.nd (pi_tup (pv 0)) (blkOk_by (N := n_law_t2_told_papers) (sc := defScope s_law_t2_told_papers) (by decide +kernel)) (fun _ _ _ _ _ => (pg_name (i := 1) sc_law_t2_told_papers.nd rfl (Or.inl rfl))) (fun _ _ _ _ _ => pts_nil) (fun _ _ _ _ _ => (pe_tup (pa_cons (pe_fld (pv 1) rfl : PE _ _ (tFld K _ "start")) (pa_cons (pe_fld (pv 1) rfl : PE _ _ (tFld K _ "end")) (pa_cons (pe_fld (pv 1) rfl : PE _ _ (tFld K _ "support")) (pa_cons (pe_fld (pv 1) rfl : PE _ _ (tFld K _ "witness")) pa_nil))))))))), ?_⟩
    refine s_retW (ew_lcRT (R := stR C) (R2 := enR Paper) (f := fun p => p) (xs := ps) (ev_var rfl hv) (by omega) (fun x u H' hx e hu => ?_) (by intro u; rfl)) fun p H1 n n' e h => q p H1 n n' e ?_
    · have hu' : StepAt C H' u x := hu
      exact ev_paper (ev_fS TC (ev_var rfl hu')) (ev_fE TC (ev_var rfl hu')) (ev_fU TC (ev_var rfl hu')) (ev_fW TC (ev_var rfl hu'))
    · rw [List.map_id'] at h
      exact h
end
end TB
set_option Elab.async false
set_option linter.all false
set_option maxRecDepth 100000
set_option maxHeartbeats 4000000
/-! D50: first_loose of any steps. -/
namespace TB
open PySem PySem.Spec PyProof.Rows L2
/-- a step that holds is a move -/
theorem holds_ok {b : List Cell} {p : Paper} (hb : Hang b) (h : holdsP b p = true) : okMove b p.s p.e = true := by
  unfold holdsP at h
  rw [Bool.and_eq_true, Bool.and_eq_true, Bool.and_eq_true, memB_iff, Bool.not_eq_true', Bool.or_eq_false_iff] at h
  obtain ⟨h1, ⟨h2, h3⟩, h4, h5⟩ := h
  have hne : supp (isIn b) p.s p.e ≠ [] := fun z => by
    rw [z] at h1
    cases h1
  have hw : Hang p.wit := hangB_iff.mp (by simpa using h3)
  rw [okMove_iff]
  rw [List.all_map, List.all_eq_true] at h4 h5
  refine ⟨hne, hang_rest hb (of_decide_eq_true (supp_in hne).1) hw (fun x hx => mem_rest.mpr ⟨of_decide_eq_true (h4 x hx), fun e => ?_⟩) fun z hz hzb => ?_⟩
  · rw [e] at hx
    rw [memB_iff.mpr hx] at h2
    cases h2
  · have h6 : (memB z p.wit || !isIn b z) = true := h5 z hz
    rw [show isIn b z = true from decide_eq_true hzb] at h6
    exact memB_iff.mp (by simpa using h6)
/-- the first so many hold at their turns -/
def Upto (b : List Cell) (qs : List Paper) (n : Nat) : Prop := ∀ t p, t < n → qs[t]? = some p → holdsP (endB b ((pms qs).take t)) p = true
/-- the first that does not -/
def FlRes (b : List Cell) (qs : List Paper) : Option Nat → Prop
  | none => Upto b qs qs.length
  | some n => Upto b qs n ∧ ∃ p, qs[n]? = some p ∧ holdsP (endB b ((pms qs).take n)) p = false
theorem FlRes.one {b : List Cell} {qs : List Paper} : ∀ {r r' : Option Nat}, FlRes b qs r → FlRes b qs r' → r = r'
  | none, none, _, _ => rfl
  | none, some n, h, ⟨_, p, hp, hf⟩ => by
    rw [h n p (List.getElem?_eq_some_iff.mp hp).1 hp] at hf
    cases hf
  | some n, none, ⟨_, p, hp, hf⟩, h => by
    rw [h n p (List.getElem?_eq_some_iff.mp hp).1 hp] at hf
    cases hf
  | some n, some m, ⟨h1, p, hp, hf⟩, ⟨h2, q, hq, hg⟩ => by
    rcases Nat.lt_trichotomy n m with h | h | h
    · rw [h2 n p h hp] at hf
      cases hf
    · rw [h]
    · rw [h1 m q h hq] at hg
      cases hg
def oV : Option Nat → V
  | none => .non
  | some n => .int (n : Int)
def fl (b : List Cell) (qs : List Paper) : Pd := ⟨fun _ v => ∃ r, FlRes b qs r ∧ v = oV r, fun _ h => h⟩
theorem fl_nn {b : List Cell} {qs : List Paper} (h : Sound b qs) {H : Hp} {v : V} (hv : (fl b qs).p H v) : nn.p H v := by
  obtain ⟨r, hr, rfl⟩ := hv
  have : r = none := hr.one (r' := none) fun t p _ hp => h.2 t p hp
  subst this
  exact rfl
theorem Upto.next {b : List Cell} {qs : List Paper} {n : Nat} {p : Paper} (h : Upto b qs n) (hp : qs[n]? = some p) (hh : holdsP (endB b ((pms qs).take n)) p = true) : Upto b qs (n + 1) := fun t q ht hq => by
  by_cases e : t = n
  · subst e
    rw [hp] at hq
    cases hq
    exact hh
  · exact h t q (by omega) hq
section
variable {K : PySem.W.Frag} {s : TSt} {H : Hp} {ta tb : TE}
theorem ev_neFl {b : List Cell} {qs : List Paper} (ha : EvP ta s H (fl b qs)) (hb : EvP tb s H (fl b qs)) : EvP (tOp (rNeD K) ta tb) s H (en false) := fun H1 e Q q =>
  ha H1 e _ fun v H2 e2 ⟨r, hr, ev⟩ => hb H2 (e.tr e2) _ fun w H3 e3 ⟨r', hr', ew⟩ => by
    obtain rfl := hr.one hr'
    subst ev
    subst ew
    cases r with
    | none => exact ⟨.none, .none, .non, .non, by rfl, by rfl, q _ H3 (e2.tr e3) (by simp only [PyData.eqv]; exact rfl)⟩
    | some n => exact ⟨Enc.d (n : Int), Enc.d (n : Int), .int _, .int _, shaped_en (n : Int) (by decide), shaped_en (n : Int) (by decide), q _ H3 (e2.tr e3) (by rw [Enc.inj, decide_eq_true rfl]; exact rfl)⟩
end
section
variable {P : Program} {w : World} {K : PySem.W.Frag} {mg : Str → Option Value} {base : Heap} {C : Addr}
def spFlG (C : Addr) : Sp := S2 fun P1 P2 Pz => ∃ (b : List Cell) (qs : List Paper), P1 = en b ∧ (P2 = lr (stR C) qs ∨ P2 = tr (stR C) qs) ∧ b.length ≤ 1000 ∧ (∀ p, p ∈ qs → p.wit.length ≤ 1000) ∧ Hang b ∧ Pz = fl b qs

theorem ok_first_looseG (T : Txt K mg "first_loose" "first_loose" s_first_loose ["body", "steps"]) (Z : Blt mg) (TC : ClsT K C) (C_holds : Cal P w K mg base 8 "holds" ["body", "step"] (spHoldsC C)) (C_done : Cal P w K mg base 10 "done" ["body", "start", "end"] spDoneC) : Cal P w K mg base 11 "first_loose" ["body", "steps"] (spFlG C) :=
  T.cal sc_first_loose S2.len fun f cdv A outer s H vs Q E hr h => by
    obtain ⟨v1, v2, P1, P2, Pz, rfl, ⟨b, qs, rfl, hP, hlen, hwl, hang, rfl⟩, h1, h2, q⟩ := h
    rcases hP with rfl | rfl
    · obtain ⟨a, rfl, ha⟩ := h2
      refine ⟨_, (pss_cons (ps_set (i := 2) sc_first_loose.nd rfl (Or.inl rfl) (pv 0))
      (pss_cons (ps_for PassesOwn.never rfl (pi_enum (by rfl) Z.enumerate (pa_cons (pv 1) pa_nil)) (pg_tup rfl (pgs_cons (pg_name (i := 3) sc_first_loose.nd rfl (Or.inl rfl)) (pgs_cons (pg_name (i := 4) sc_first_loose.nd rfl (Or.inl rfl)) pgs_nil))) (pss_cons (ps_if (pt_not (pt_val (pe_cal C_holds (hr.mono (by decide)) (pa_cons (pv 2) (pa_cons (pv 4) pa_nil))))) (pss_one (ps_ret (pv 3))) pss_nil)
      (pss_one (ps_set (i := 2) sc_first_loose.nd rfl (Or.inl rfl) (pe_cal C_done (hr.mono (by decide)) (pa_cons (pv 2) (pa_cons (pe_fld (pv 4) rfl) (pa_cons (pe_fld (pv 4) rfl) pa_nil))))))))
      (pss_one (ps_ret pe_non)))), ?_⟩
      refine q_asg (P := en b) (ev_var rfl h1) fun vh H1 e1 hvh => ?_
      refine q_forE (R := stR C) (xs := qs) [] (ha.up e1) (ev_vr rfl) List.not_mem_nil (fun b hb => absurd hb List.not_mem_nil) fun H2 e2 => ⟨fun n s' H' => ∃ vh u3 u4, s' = [some v1, some (.ref a), some vh, u3, u4] ∧ Ex H2 H' ∧ En H' vh (endB b ((pms qs).take n)) ∧ Upto b qs n ∧ okPlan b ((pms qs).take n) = true,
        ⟨_, _, _, rfl, Ex.same, en_up e2 hvh, fun t p ht => absurd ht (Nat.not_lt_zero t), rfl⟩, fun n s' H' ⟨_, _, _, _, e, _⟩ => Mv.same.ex e, fun n p vp s' H' H'' hp hvp e'' ⟨vh, u3, u4, es, eX, hh, hup, hok⟩ => ?_, fun s' H' ⟨vh, u3, u4, es, eX, hh, hup, hok⟩ => ?_⟩
      · subst es
        have hm := pms_at hp
        have hbl : (endB b ((pms qs).take n)).length ≤ 1000 := Nat.le_trans (endB_len hok) hlen
        have hvp' : StepAt C H'' vp p := hvp
        refine q_ifN (b := !holdsP (endB b ((pms qs).take n)) p) (eb_not (eb_B (ev_c2 (P1 := en (endB b ((pms qs).take n))) (P2 := st C p) (ea_cons (ev_var rfl (en_up e'' hh)) (ea_cons (ev_var rfl hvp') ea_nil)) ⟨_, p, rfl, rfl, hbl, hwl p (List.mem_of_getElem? hp), rfl⟩))) (fun hb H3 e3 => ?_) fun hb H3 e3 => ?_
        · refine s_ret (P := va (.int (n : Int))) (ev_var rfl rfl) fun v H4 e4 hv => q v H4 ((((((e1.tr e2).tr eX).tr e'').tr e3)).tr e4) ⟨some n, ⟨hup, p, hp, by simpa using hb⟩, hv⟩
        · have hh1 : holdsP (endB b ((pms qs).take n)) p = true := by simpa using hb
          have ok := holds_ok (endB_hang hang hok) hh1
          refine s_asg (P := en (done (endB b ((pms qs).take n)) p.s p.e)) (ev_c3 (P1 := en (endB b ((pms qs).take n))) (P2 := en p.s) (P3 := en p.e) (ea_cons (ev_var rfl (en_up (e''.tr e3) hh)) (ea_cons (ev_fS TC (ev_var rfl (hvp'.up e3))) (ea_cons (ev_fE TC (ev_var rfl (hvp'.up e3))) ea_nil))) ⟨_, _, _, rfl, rfl, rfl, hbl, ok, rfl⟩) fun v H4 e4 hv => ⟨_, _, _, rfl, ((eX.tr e'').tr e3).tr e4, ?_, hup.next hp hh1, ?_⟩
          · rw [take_snoc hm, endB_snoc]
            exact hv
          · rw [take_snoc hm, okPlan_snoc, hok, ok]
            rfl
      · subst es
        exact s_ret ev_non fun v H3 e3 hv => q v H3 (((e1.tr e2).tr eX).tr e3) ⟨none, hup, hv⟩
    · obtain ⟨a, rfl, ha⟩ := h2
      refine ⟨_, (pss_cons (ps_set (i := 2) sc_first_loose.nd rfl (Or.inl rfl) (pv 0))
      (pss_cons (ps_for PassesOwn.never rfl (pi_enumT (by rfl) Z.enumerate (pa_cons (pv 1) pa_nil)) (pg_tup rfl (pgs_cons (pg_name (i := 3) sc_first_loose.nd rfl (Or.inl rfl)) (pgs_cons (pg_name (i := 4) sc_first_loose.nd rfl (Or.inl rfl)) pgs_nil))) (pss_cons (ps_if (pt_not (pt_val (pe_cal C_holds (hr.mono (by decide)) (pa_cons (pv 2) (pa_cons (pv 4) pa_nil))))) (pss_one (ps_ret (pv 3))) pss_nil)
      (pss_one (ps_set (i := 2) sc_first_loose.nd rfl (Or.inl rfl) (pe_cal C_done (hr.mono (by decide)) (pa_cons (pv 2) (pa_cons (pe_fld (pv 4) rfl) (pa_cons (pe_fld (pv 4) rfl) pa_nil))))))))
      (pss_one (ps_ret pe_non)))), ?_⟩
      refine q_asg (P := en b) (ev_var rfl h1) fun vh H1 e1 hvh => ?_
      refine q_forET (R := stR C) (xs := qs) [] (ha.up e1) (ev_vr rfl) List.not_mem_nil (fun b hb => absurd hb List.not_mem_nil) fun H2 e2 => ⟨fun n s' H' => ∃ vh u3 u4, s' = [some v1, some (.ref a), some vh, u3, u4] ∧ Ex H2 H' ∧ En H' vh (endB b ((pms qs).take n)) ∧ Upto b qs n ∧ okPlan b ((pms qs).take n) = true,
        ⟨_, _, _, rfl, Ex.same, en_up e2 hvh, fun t p ht => absurd ht (Nat.not_lt_zero t), rfl⟩, fun n s' H' ⟨_, _, _, _, e, _⟩ => Mv.same.ex e, fun n p vp s' H' H'' hp hvp e'' ⟨vh, u3, u4, es, eX, hh, hup, hok⟩ => ?_, fun s' H' ⟨vh, u3, u4, es, eX, hh, hup, hok⟩ => ?_⟩
      · subst es
        have hm := pms_at hp
        have hbl : (endB b ((pms qs).take n)).length ≤ 1000 := Nat.le_trans (endB_len hok) hlen
        have hvp' : StepAt C H'' vp p := hvp
        refine q_ifN (b := !holdsP (endB b ((pms qs).take n)) p) (eb_not (eb_B (ev_c2 (P1 := en (endB b ((pms qs).take n))) (P2 := st C p) (ea_cons (ev_var rfl (en_up e'' hh)) (ea_cons (ev_var rfl hvp') ea_nil)) ⟨_, p, rfl, rfl, hbl, hwl p (List.mem_of_getElem? hp), rfl⟩))) (fun hb H3 e3 => ?_) fun hb H3 e3 => ?_
        · refine s_ret (P := va (.int (n : Int))) (ev_var rfl rfl) fun v H4 e4 hv => q v H4 ((((((e1.tr e2).tr eX).tr e'').tr e3)).tr e4) ⟨some n, ⟨hup, p, hp, by simpa using hb⟩, hv⟩
        · have hh1 : holdsP (endB b ((pms qs).take n)) p = true := by simpa using hb
          have ok := holds_ok (endB_hang hang hok) hh1
          refine s_asg (P := en (done (endB b ((pms qs).take n)) p.s p.e)) (ev_c3 (P1 := en (endB b ((pms qs).take n))) (P2 := en p.s) (P3 := en p.e) (ea_cons (ev_var rfl (en_up (e''.tr e3) hh)) (ea_cons (ev_fS TC (ev_var rfl (hvp'.up e3))) (ea_cons (ev_fE TC (ev_var rfl (hvp'.up e3))) ea_nil))) ⟨_, _, _, rfl, rfl, rfl, hbl, ok, rfl⟩) fun v H4 e4 hv => ⟨_, _, _, rfl, ((eX.tr e'').tr e3).tr e4, ?_, hup.next hp hh1, ?_⟩
          · rw [take_snoc hm, endB_snoc]
            exact hv
          · rw [take_snoc hm, okPlan_snoc, hok, ok]
            rfl
      · subst es
        exact s_ret ev_non fun v H3 e3 hv => q v H3 (((e1.tr e2).tr eX).tr e3) ⟨none, hup, hv⟩
def spLawFl : Sp := S2 fun P1 P2 Pz => ∃ (b : List Cell) (qs : List Paper), P1 = en b ∧ P2 = li qs ∧ b.length ≤ 1000 ∧ qs.length ≤ 1000 ∧ (∀ p, p ∈ qs → p.wit.length ≤ 1000) ∧ Hang b ∧ Pz = fl b qs
end
end TB
set_option Elab.async false
set_option linter.all false
set_option maxRecDepth 100000
set_option maxHeartbeats 4000000
/-! D51: a pick of values; other cells; changed papers. -/
namespace TB
open PySem PySem.Spec PyProof.Rows L2
/-- one of the values of a list or of a tuple -/
def spPickV : Sp := fun vs H Q _ => ∃ (us : List V) (d c a : Addr) (n : Nat), vs = [.ref d, .ref a] ∧ PenAt H d c n ∧ n < 1000000000 ∧ (H a = some (.lst us) ∨ H a = some (.tup us)) ∧ us ≠ [] ∧ us.length < 1000000 ∧ ∀ u H', u ∈ us → Mv [d] H H' → PenAt H' d c (n + 1) → Q u H'
theorem spPickV_len {x y : Str} : ∀ vs H Q E, spPickV vs H Q E → vs.length = [x, y].length := fun vs H Q E ⟨_, _, _, _, _, e, _⟩ => by
  subst e
  rfl
section
variable {P : Program} {w : World} {K : PySem.W.Frag} {mg : Str → Option Value} {base : Heap} {C : Addr}
theorem ok_law_pickV (T : Txt K mg "_law_pick" "_law_pick" s_law_pick ["_law_pen_here", "_law_some"]) (Z : Blt mg) (C_law_draw : Cal P w K mg base 1 "_law_draw" ["_law_pen_here", "_law_many"] spDraw) : Cal P w K mg base 2 "_law_pick" ["_law_pen_here", "_law_some"] spPickV :=
  T.cal sc_law_pick spPickV_len fun f cdv A outer s H vs Q E hr h => by
    obtain ⟨us, d, c, a, n, rfl, hp, hn, ha, hne, hlen, q⟩ := h
    have hpos : 0 < us.length := List.length_pos_iff.mpr hne
    have had : a ≠ d := fun z => by
      obtain ⟨_, _, _, _, _, g, _⟩ := hp
      rw [z, g] at ha
      rcases ha with h | h <;> cases h
    have hat : ∀ {k : Int}, 0 ≤ k → k < (us.length : Int) → ∃ u, u ∈ us ∧ atI us k = some u := fun {k} k0 k1 => by
      obtain ⟨u, hu⟩ : ∃ u, us[k.toNat]? = some u := ⟨_, List.getElem?_eq_getElem (by omega)⟩
      have h3 := atI_nat hu
      rw [Int.toNat_of_nonneg k0] at h3
      exact ⟨u, List.mem_of_getElem? hu, h3⟩
    rcases ha with ha | ha
    · refine ⟨_, (pss_one (ps_ret (pe_ix ix_list (pv 1) (pe_cal C_law_draw (hr.mono (by decide)) (pa_cons (pv 0) (pa_cons (pe_callB call_len_seq (by rfl) Z.len (by decide +kernel) (pa_cons (pv 1) pa_nil)) pa_nil))) (fun _ _ => rfl)))), ?_⟩
      refine raw_ret (raw_op ⟨.ref a, rfl, raw_call (raw_cons ⟨.ref d, rfl, raw_cons (raw_CB (raw_cons ⟨.ref a, rfl, ⟨a, us, rfl, .inl (.inl (.inl ha)), ⟨d, c, n, (us.length : Int), rfl, hp, hn, by omega, by omega, fun k H2 k0 k1 m2 p2 => ?_⟩⟩⟩))⟩)⟩)
      obtain ⟨u, hu, hku⟩ := hat k0 k1
      exact ⟨a, us, k, u, rfl, rfl, .inl (.inl (m2.ch _ _ (mem1 had) ha)), hku, q u H2 hu m2 p2⟩
    · refine ⟨_, (pss_one (ps_ret (pe_ix ix_tup (pv 1) (pe_cal C_law_draw (hr.mono (by decide)) (pa_cons (pv 0) (pa_cons (pe_callB call_len_seq (by rfl) Z.len (by decide +kernel) (pa_cons (pv 1) pa_nil)) pa_nil))) (fun _ _ => rfl)))), ?_⟩
      refine raw_ret (raw_op ⟨.ref a, rfl, raw_call (raw_cons ⟨.ref d, rfl, raw_cons (raw_CB (raw_cons ⟨.ref a, rfl, ⟨a, us, rfl, .inr (.inl (.inl ha)), ⟨d, c, n, (us.length : Int), rfl, hp, hn, by omega, by omega, fun k H2 k0 k1 m2 p2 => ?_⟩⟩⟩))⟩)⟩)
      obtain ⟨u, hu, hku⟩ := hat k0 k1
      exact ⟨a, us, k, u, rfl, rfl, .inl (.inl (m2.ch _ _ (mem1 had) ha)), hku, q u H2 hu m2 p2⟩
end
theorem cut_len {α : Type} [DecidableEq α] [Enc α] {xs : List α} {lo hi : Option Int} : (cut xs lo hi).length ≤ xs.length := by
  unfold cut
  refine Nat.le_trans (List.length_take_le' _ _) ?_
  rw [List.length_drop]
  exact Nat.sub_le _ _
theorem cat_at {α : Type} [DecidableEq α] [Enc α] {H : Hp} {p q : Addr} {xs ys : List α} {Q : VK} (h1 : Ls H p xs) (h2 : Ls H q ys) (hl : xs.length + ys.length ≤ 1000000) (k : ∀ z H', H z = none → Ex H H' → Ls H' z (xs ++ ys) → Q (.ref z) H') : rCat (.ref p) (.ref q) H Q := by
  obtain ⟨us, a1, a2⟩ := h1
  obtain ⟨ws, b1, b2⟩ := h2
  exact ⟨p, q, us, ws, rfl, rfl, a1, b1, by rw [a2.length, b2.length]; exact sz_of hl, fun z hz => k z _ hz (Ex.new hz) ⟨_, upd_same, paired_map (paired_app a2 b2) fun _ _ w => en_up (Ex.new hz) w⟩⟩
theorem raw_lst {t : TA} {s : TSt} {H : Hp} {Q : VK} (h : t s H fun xs H1 => xs.length ≤ sizeLine ∧ ∀ p, H1 p = none → Q (.ref p) (upd H1 p (.lst xs))) : tLst t s H Q := h
section
variable {s : TSt} {H : Hp} {D : Ends} {u tu : TS} {α : Type} [DecidableEq α] [Enc α]
theorem raw_pickP {P : Pd} {d c : Addr} {n i : Nat} {xs : List α} {tb : TE} {E : XK} {Q : VK} (hd : s[i]? = some (some (.ref d))) (hx : EvP tb s H P) (hP : ∀ H1 v, P.p H1 v → ∃ a us, v = .ref a ∧ (H1 a = some (.lst us) ∨ H1 a = some (.tup us)) ∧ Paired (Enc.r H1) us xs) (hp : PenAt H d c n) (hn : n < 1000000000) (hne : xs ≠ []) (hl : xs.length < 1000000)
    (k : ∀ y u H2, y ∈ xs → Mv [d] H H2 → PenAt H2 d c (n + 1) → En H2 u y → Q u H2) : tCall spPickV [] E (tCons (tVar i) (tCons tb tNil)) s H Q :=
  raw_call (raw_cons ⟨.ref d, hd, raw_cons (hx H Ex.same _ fun v H1 e1 hv => by
    obtain ⟨a, us, rfl, h1, h2⟩ := hP H1 v hv
    have hlen := h2.length
    exact ⟨us, d, c, a, n, rfl, hp.up e1, hn, h1, fun z => hne (List.length_eq_zero_iff.mp (by rw [← hlen, z]; rfl)), by omega, fun u H' hu m p => by
      obtain ⟨y, hy, r⟩ := paired_mem h2 hu
      exact k y u H' hy ((Mv.same.ex e1).tr m) p (en_mv r m)⟩)⟩)
theorem raw_pickT {d c : Addr} {n i : Nat} {xs : List α} {tb : TE} {E : XK} {Q : VK} (hd : s[i]? = some (some (.ref d))) (hx : EvP tb s H (en xs)) (hp : PenAt H d c n) (hn : n < 1000000000) (hne : xs ≠ []) (hl : xs.length < 1000000)
    (k : ∀ y u H2, y ∈ xs → Mv [d] H H2 → PenAt H2 d c (n + 1) → En H2 u y → Q u H2) : tCall spPickV [] E (tCons (tVar i) (tCons tb tNil)) s H Q :=
  raw_pickP hd hx (fun H1 v ⟨a, us, h1, h2, h3⟩ => ⟨a, us, h1, .inr h2, h3⟩) hp hn hne hl k
theorem raw_pickL {d c : Addr} {n i : Nat} {xs : List α} {tb : TE} {E : XK} {Q : VK} (hd : s[i]? = some (some (.ref d))) (hx : EvP tb s H (li xs)) (hp : PenAt H d c n) (hn : n < 1000000000) (hne : xs ≠ []) (hl : xs.length < 1000000)
    (k : ∀ y u H2, y ∈ xs → Mv [d] H H2 → PenAt H2 d c (n + 1) → En H2 u y → Q u H2) : tCall spPickV [] E (tCons (tVar i) (tCons tb tNil)) s H Q :=
  raw_pickP hd hx (fun H1 v ⟨a, h1, us, h2, h3⟩ => ⟨a, us, h1, .inl h2, h3⟩) hp hn hne hl k
end
theorem supp_len_all {q : Cell → Bool} {s e : Cell} {x : List Cell} (h : x ∈ supp q s e) : x.length ≤ 2 := by
  unfold supp at h
  split at h
  · cases h
  · split at h
    · split at h
      · rw [List.mem_singleton.mp h]
        split <;> exact Nat.le_succ 1
      · cases h
    · obtain ⟨g, _, rfl⟩ := List.mem_map.mp (srt_mem.mp h)
      rw [srt_len]
      exact Nat.le_refl _
end TB
set_option Elab.async false
set_option linter.all false
set_option maxRecDepth 100000
set_option maxHeartbeats 4000000
/-! D60: the first broken tie; NotKept made, raised. -/
namespace TB
open PySem PySem.Spec PyProof.Rows L2
/-- where x stands -/
def ix (x : Int) : List Int → Nat
  | [] => 0
  | y :: r => if y = x then 0 else ix x r + 1
theorem ix_get {x : Int} : ∀ {xs : List Int}, x ∈ xs → xs[ix x xs]? = some x
  | [], h => by cases h
  | y :: r, h => by
    unfold ix
    by_cases e : y = x
    · rw [if_pos e]
      show some y = some x
      rw [e]
    · rw [if_neg e]
      rcases List.mem_cons.mp h with z | z
      · exact absurd z.symm e
      · show r[ix x r]? = some x
        exact ix_get z
theorem ix_first {x : Int} : ∀ {xs : List Int} {m : Nat}, m < ix x xs → xs[m]? ≠ some x
  | [], m, h => by
    intro z
    simp at z
  | y :: r, m, h => by
    unfold ix at h
    by_cases e : y = x
    · rw [if_pos e] at h
      exact absurd h (Nat.not_lt_zero m)
    · rw [if_neg e] at h
      cases m with
      | zero => exact fun z => e (Option.some.inj z)
      | succ m => exact ix_first (xs := r) (m := m) (by omega)
theorem ix_at {xs : List Int} {x : Int} {k : Nat} (hn : xs.Nodup) (h : xs[k]? = some x) : ix x xs = k := nodup_at hn (ix_get (List.mem_of_getElem? h)) h
def brk (order : List Int) (t : Int × Int) : Bool := decide ((ix t.2 order : Int) < (ix t.1 order : Int))
def brokenOf (ps : List Paper) (order : List Int) : Option (Int × Int) := (tiesP ps).find? (brk order)
theorem broken_none {ps : List Paper} {order : List Int} (hp : order.Perm (rng 0 ps.length)) (h : brokenOf ps order = none) : Keeps ps order := by
  refine ⟨hp, fun a b i j ht ha hb => ?_⟩
  have hnd := hp.nodup_iff.mpr (rng_nd _)
  have h1 := List.find?_eq_none.mp h _ ht
  have h2 : ¬ brk order (i, j) = true := h1
  unfold brk at h2
  rw [decide_eq_true_iff] at h2
  have h3 : ix i order = a := ix_at hnd ha
  have h4 : ix j order = b := ix_at hnd hb
  have h5 : ¬ ((ix j order : Int) < (ix i order : Int)) := h2
  rw [h3, h4] at h5
  have h6 : i < j := (ties_asc _ ht).2
  rcases Nat.lt_trichotomy a b with z | z | z
  · exact z
  · subst z
    rw [ha] at hb
    cases hb
    omega
  · omega
theorem find_at {α : Type} {p : α → Bool} : ∀ {xs : List α} {k : Nat} {x : α}, (∀ y, y ∈ xs.take k → p y = false) → xs[k]? = some x → p x = true → xs.find? p = some x
  | [], k, x, _, h, _ => by simp at h
  | y :: r, 0, x, _, h, hp => by
    have : y = x := Option.some.inj h
    subst this
    simp [List.find?, hp]
  | y :: r, k + 1, x, hno, h, hp => by
    have h1 : p y = false := hno y (by simp)
    simp only [List.find?, h1]
    exact find_at (k := k) (fun z hz => hno z (by rw [List.take_succ_cons]; exact List.mem_cons_of_mem _ hz)) h hp
/-- None, or a datum -/
def op {α : Type} [DecidableEq α] [Enc α] (o : Option α) : Pd := ⟨fun H v => match o with
  | none => v = .non
  | some x => En H v x, fun {H H' v} e h => by
    cases o with
    | none => exact h
    | some x => exact en_up e h⟩
section
variable {s : TSt} {H : Hp} {ta : TE} {α : Type} [DecidableEq α] [Enc α]
theorem en_nn {H : Hp} {v : V} {x : Int × Int} (h : En H v x) : v ≠ .non := fun z => by
  obtain ⟨a, u, w, e, _⟩ := h
  rw [z] at e
  cases e
theorem ev_notOp {o : Option (Int × Int)} {r : R2} (hr : r = fun x y H Q => y = .non ∧ Q (.bl (!decide (x = .non))) H) (ha : EvP ta s H (op o)) : EvP (tOp r ta (tC .non)) s H (en o.isSome) := fun H1 e Q q =>
  ha H1 e _ fun v H2 e2 hv => by
    subst hr
    cases o with
    | none =>
      have hv : v = .non := hv
      subst hv
      exact ⟨rfl, q _ H2 e2 rfl⟩
    | some x =>
      have hv : En H2 v x := hv
      refine ⟨rfl, q _ H2 e2 ?_⟩
      rw [decide_eq_false (en_nn hv)]
      exact rfl
end
section
variable {P : Program} {w : World} {K : PySem.W.Frag} {mg : Str → Option Value} {base : Heap} {C CN : Addr}
def spBrokenG (C : Addr) : Sp := S2 fun P1 P2 Pz => ∃ (ps : List Paper) (order : List Int), P1 = lr (stR C) ps ∧ P2 = li order ∧ ps.length ≤ 100 ∧ (∀ p, p ∈ ps → smallP p) ∧ order.Perm (rng 0 ps.length) ∧ Pz = op (brokenOf ps order)
/-! NotKept -/
abbrev s_NotKept___init : Stmt := inClass (topS 6) 0
abbrev n_NotKept___init : List Str := ["self", "promise", "witness"]
theorem sc_NotKept___init : FnScope n_NotKept___init ["self", "promise", "witness"] (defScope s_NotKept___init) := ⟨rfl, rfl, rfl, by decide +kernel, rfl, by decide +kernel, by decide +kernel⟩
def spNkInit (C : Addr) : Sp := fun vs H Q _ => ∃ a u1 u2, vs = [.ref a, u1, u2] ∧ H a = some (exo a C none) ∧ ∀ dx, H dx = none → dx ≠ a → Q .non (upd (upd (upd H dx (exd dx [("promise", u1)])) a (exo a C (some dx))) dx (exd dx [("witness", u2), ("promise", u1)]))
/-- the class as it stands -/
structure NkM (P : Program) (w : World) (K : PySem.W.Frag) (mg : Str → Option Value) (base : Heap) (C : Addr) : Prop where
  ex : ∃ fI fd, PySem.W.findIn K (.ref C) "__init__" = some (some (.ref fI)) ∧ PySem.W.typeIn K (.ref fI) = some (.type "function") ∧ FnOk P w K mg base CX0 1 fI fd ["self", "promise", "witness"] (spNkInit C) ∧ Binds K fd ["self", "promise", "witness"] []
  ox : OexC K C
  gC : mg "NotKept" = some (.ref C)
  xf : XfC K C
  n_promise : PySem.W.findIn K (.ref C) "promise" = some none
  n_witness : PySem.W.findIn K (.ref C) "witness" = some none
  te : PySem.W.exmOne K (.ref C) (.ref C) = some true
theorem ok_nkinit {f : Addr} {fd : FuncData} (F : Fun K "__init__" "NotKept.__init__" s_NotKept___init f fd) (T : OexC K C) (n1 : PySem.W.findIn K (.ref C) "promise" = some none) (n2 : PySem.W.findIn K (.ref C) "witness" = some none) : FnOk P w K mg base CX0 1 f fd ["self", "promise", "witness"] (spNkInit C) :=
  F.ok sc_NotKept___init (fun vs H Q E ⟨a, u1, u2, e, _⟩ => by subst e; rfl) fun cdv A outer s H vs Q E hr h => by
    obtain ⟨a, u1, u2, rfl, h0, q⟩ := h
    refine ⟨_, (pss_cons (ps_ost (pv 0) (pv 1))
      (pss_one (ps_ost (pv 0) (pv 2)))), ?_⟩
    refine ⟨u1, rfl, .ref a, rfl, a, C, rfl, T, n1, .inl ⟨h0, fun dx ndx nda => ?_⟩⟩
    refine ⟨u2, rfl, .ref a, rfl, a, C, rfl, T, n2, .inr ⟨dx, [("promise", u1)], upd_same, ?_, Nat.le_of_ble_eq_true rfl, q dx ndx nda⟩⟩
    rw [upd_ne nda]
    exact upd_same
theorem passZ {X : Cx} : Passes CX0 X (fun _ _ _ => False) := fun _ _ _ _ _ _ _ h => h.elim
theorem pmk_nk {X : Cx} {e : Expr} {es : List Expr} {t : TA} {p pos : Pos} (M : NkM X.prog X.w X.K X.mg X.base C) (hr : Room 2 X.A) (ha : PA X (e :: es) t) (hg : Gl X "NotKept" := by rfl)
    (hdb : (("NotKept" : Str) == ("__debug__" : Str)) = false := by decide) (he : starEach (e :: es) X.env = (false, eval e X.env) :: starEach es X.env := by rfl) (hpl : (backTo pos (starEach es X.env)).any (·.1) = false := by rfl) :
    PMk X (.Call (.Name "NotKept" p) (e :: es) [] pos) (tMkO C (spNkInit C) [] t) := by
  obtain ⟨fI, fd, iC, tI, F1, b⟩ := M.ex
  exact pmk_oex M.ox iC tI F1 hr b .nil passZ hg M.gC ha hdb he hpl
/-- a promise of a def that may raise -/
structure CalX (P : Program) (w : World) (K : PySem.W.Frag) (mg : Str → Option Value) (base : Heap) (L : Nat) (x : Str) (ps : List Str) (sp : Sp) : Prop where
  ex : ∃ f fd, FnOk P w K mg base (L2.CX P w) L f fd ps sp ∧ mg x = some (.ref f) ∧ PySem.W.keepIn K (.ref f) = true ∧ Binds K fd ps []
theorem Txt.calX {x qual : Str} {st : Stmt} {N ps : List Str} {k : Nat} {sp : Sp} (T : Txt K mg x qual st ps) (S : FnScope N ps (defScope st)) (len : ∀ vs H Q E, sp vs H Q E → vs.length = ps.length)
    (hbody : ∀ (f : Addr) (cdv : Value) (A : Around) (outer : List Env) (s : Shared) (H : Hp) (vs : List V) (Q : VK) (E : XK), Room k (A.deeper (envOfC qual (defScope st) s.heap.objs.size f cdv)) → sp vs H Q E →
      ∃ t, PSs (cxOf (L2.CX P w) P w K mg base N qual (defScope st) f cdv A outer s H E) (defBody st) t ∧ t { nx := fun _ H' => Q .non H', rt := Q } (start N vs) H) : CalX P w K mg base (k + 1) x ps sp := by
  obtain ⟨f, fd, F, g, b⟩ := T.ex
  exact ⟨f, fd, F.okX S len (hbody f), g, F.kp, b⟩
theorem pe_calX {X : Cx} {x : Str} {ps : List Str} {sp : Sp} {k : Nat} {e : Expr} {es : List Expr} {t : TA} {p pos : Pos} {E : L2.St → XK} (C : CalX X.prog X.w X.K X.mg X.base k x ps sp) (hr : Room k X.A) (hx : ∀ σ, PassesAt (L2.CX X.prog X.w) X σ (E σ)) (ha : PA X (e :: es) t) (hg : Gl X x := by rfl)
    (hdb : (x == ("__debug__" : Str)) = false := by decide) (he : starEach (e :: es) X.env = (false, eval e X.env) :: starEach es X.env := by rfl) (hpl : (backTo pos (starEach es X.env)).any (·.1) = false := by rfl) :
    PE X (.Call (.Name x p) (e :: es) [] pos) (tCallS sp E t) := by
  obtain ⟨f, fd, F, g, kp, b⟩ := C.ex
  exact pe_callS F hr hg g kp b hx ha hdb he hpl
def spInOrderX (C CN : Addr) : Sp := fun vs H Q E => ∃ (v1 v2 : V) (ps : List Paper) (order : List Int), vs = [v1, v2] ∧ (lr (stR C) ps).p H v1 ∧ (li order).p H v2 ∧ ps.length ≤ 100 ∧ (∀ p, p ∈ ps → smallP p) ∧ order.Perm (rng 0 ps.length) ∧
  (brokenOf ps order = none → ∀ u H', Ex H H' → (tr (stR C) (ordP ps order)).p H' u → Q u H') ∧
  ∀ t, brokenOf ps order = some t → ∀ d u H', Ex H H' → H' d = some (.xd [("witness", u), ("promise", .str "tie")]) → En H' u t → E (.ref CN) (some d) H'
theorem spInOrderX_len {C CN : Addr} {x y : Str} : ∀ vs H Q E, spInOrderX C CN vs H Q E → vs.length = [x, y].length := fun vs H Q E ⟨_, _, _, _, e, _⟩ => by
  subst e
  rfl
end
end TB
set_option Elab.async false
set_option linter.all false
set_option maxRecDepth 100000
set_option maxHeartbeats 2000000
/-! M7: every body of two squares or more has a move. -/
namespace TB
theorem supp_turn {q : Cell → Bool} {s e : Cell} (hs : q s = true) (he : q e = false) (hx : e.1 - s.1 = 1 ∨ e.1 - s.1 = -1) (hy : e.2 - s.2 = 1 ∨ e.2 - s.2 = -1) (hc : q (e.1, s.2) ≠ q (s.1, e.2)) : supp q s e ≠ [] := by
  have hm : mx (ab (e.1 - s.1)) (ab (e.2 - s.2)) = 1 := by
    unfold mx ab
    split <;> split <;> split <;> omega
  unfold supp
  rw [if_neg (by rw [hs, he, hm]; simp), if_pos (by
    simp only [Bool.and_eq_true, Bool.not_eq_true', decide_eq_false_iff_not]
    omega), if_pos (by simpa using hc)]
  exact List.cons_ne_nil _ _
theorem supp_slide {q : Cell → Bool} {s e : Cell} {g : Int} (hs : q s = true) (he : q e = false) (hm : (e.1 - s.1 = 0 ∧ (e.2 - s.2 = 1 ∨ e.2 - s.2 = -1)) ∨ (e.2 - s.2 = 0 ∧ (e.1 - s.1 = 1 ∨ e.1 - s.1 = -1))) (hg : g = 1 ∨ g = -1)
    (h1 : q (s.1 + g * (e.2 - s.2), s.2 + g * (e.1 - s.1)) = true) (h2 : q (e.1 + g * (e.2 - s.2), e.2 + g * (e.1 - s.1)) = true) : supp q s e ≠ [] := by
  have hm' : mx (ab (e.1 - s.1)) (ab (e.2 - s.2)) = 1 := by
    unfold mx ab
    split <;> split <;> split <;> omega
  unfold supp
  rw [if_neg (by rw [hs, he, hm']; simp), if_neg (by
    simp only [Bool.and_eq_true, Bool.not_eq_true', decide_eq_false_iff_not]
    omega)]
  intro z
  have hin : g ∈ [1, -1].filter fun g : Int => q (s.1 + g * (e.2 - s.2), s.2 + g * (e.1 - s.1)) && q (e.1 + g * (e.2 - s.2), e.2 + g * (e.1 - s.1)) :=
    List.mem_filter.mpr ⟨by simpa using hg, by rw [h1, h2]; rfl⟩
  have hin2 := srt_mem.mpr (List.mem_map_of_mem (f := fun g => srt [(s.1 + g * (e.2 - s.2), s.2 + g * (e.1 - s.1)), (e.1 + g * (e.2 - s.2), e.2 + g * (e.1 - s.1))]) hin)
  rw [z] at hin2
  cases hin2
theorem mv_hv {q : Cell → Bool} {x y a d : Int} (ha : a = 1 ∨ a = -1) (hd : d = 1 ∨ d = -1) (hf : q (x, y) = true) (hu : q (x + a, y) = true) (hv : q (x, y + d) = false) : ∃ e, supp q (x, y) e ≠ [] := by
  cases hq : q (x + a, y + d) with
  | false =>
    refine ⟨(x + a, y + d), supp_turn hf hq (by show x + a - x = 1 ∨ x + a - x = -1; omega) (by show y + d - y = 1 ∨ y + d - y = -1; omega) ?_⟩
    show q (x + a, y) ≠ q (x, y + d)
    rw [hu, hv]
    exact fun z => by cases z
  | true =>
    have e1 : x + a * d * (y + d - y) = x + a := by
      rcases ha with rfl | rfl <;> rcases hd with rfl | rfl <;> omega
    have e2 : a * d * (x - x) = 0 := by
      rw [Int.sub_self, Int.mul_zero]
    refine ⟨(x, y + d), supp_slide (g := a * d) hf hv (.inl ⟨by show x - x = 0; omega, by show y + d - y = 1 ∨ y + d - y = -1; omega⟩) ?_ ?_ ?_⟩
    · rcases ha with rfl | rfl <;> rcases hd with rfl | rfl <;> decide
    · show q (x + a * d * (y + d - y), y + a * d * (x - x)) = true
      rw [e1, e2, Int.add_zero]
      exact hu
    · show q (x + a * d * (y + d - y), y + d + a * d * (x - x)) = true
      rw [e1, e2, Int.add_zero]
      exact hq
theorem mv_vh {q : Cell → Bool} {x y a d : Int} (ha : a = 1 ∨ a = -1) (hd : d = 1 ∨ d = -1) (hf : q (x, y) = true) (hu : q (x, y + d) = true) (hv : q (x + a, y) = false) : ∃ e, supp q (x, y) e ≠ [] := by
  cases hq : q (x + a, y + d) with
  | false =>
    refine ⟨(x + a, y + d), supp_turn hf hq (by show x + a - x = 1 ∨ x + a - x = -1; omega) (by show y + d - y = 1 ∨ y + d - y = -1; omega) ?_⟩
    show q (x + a, y) ≠ q (x, y + d)
    rw [hu, hv]
    exact fun z => by cases z
  | true =>
    have e1 : y + a * d * (x + a - x) = y + d := by
      rcases ha with rfl | rfl <;> rcases hd with rfl | rfl <;> omega
    have e2 : a * d * (y - y) = 0 := by
      rw [Int.sub_self, Int.mul_zero]
    refine ⟨(x + a, y), supp_slide (g := a * d) hf hv (.inr ⟨by show y - y = 0; omega, by show x + a - x = 1 ∨ x + a - x = -1; omega⟩) ?_ ?_ ?_⟩
    · rcases ha with rfl | rfl <;> rcases hd with rfl | rfl <;> decide
    · show q (x + a * d * (y - y), y + a * d * (x + a - x)) = true
      rw [e1, e2, Int.add_zero]
      exact hu
    · show q (x + a + a * d * (y - y), y + a * d * (x + a - x)) = true
      rw [e1, e2, Int.add_zero]
      exact hq
/-- a square with a full side and an empty one can go somewhere -/
theorem mv_any {q : Cell → Bool} {f u v : Cell} (hf : q f = true) (hu : u ∈ nbs f) (hqu : q u = true) (hv : v ∈ nbs f) (hqv : q v = false) : ∃ e, supp q f e ≠ [] := by
  obtain ⟨x, y⟩ := f
  obtain ⟨u1, u2⟩ := u
  obtain ⟨v1, v2⟩ := v
  simp only [nbs, List.mem_cons, Prod.mk.injEq, List.not_mem_nil, or_false] at hu hv
  have hor : ∀ {a d : Int}, (a = 1 ∨ a = -1) → (d = 1 ∨ d = -1) → (q (x + a, y) = true → q (x, y + d) = true) ∧ (q (x, y + d) = true → q (x + a, y) = true) ∨ ∃ e, supp q (x, y) e ≠ [] := fun {a d} ha hd => by
    cases h1 : q (x + a, y) with
    | true =>
      cases h2 : q (x, y + d) with
      | true => exact .inl ⟨fun _ => rfl, fun _ => rfl⟩
      | false => exact .inr (mv_hv ha hd hf h1 h2)
    | false =>
      cases h2 : q (x, y + d) with
      | true => exact .inr (mv_vh ha hd hf h2 h1)
      | false => exact .inl ⟨fun z => (by cases z), fun z => (by cases z)⟩
  rcases hor (a := 1) (d := 1) (.inl rfl) (.inl rfl) with ⟨a1, a2⟩ | h
  · rcases hor (a := 1) (d := -1) (.inl rfl) (.inr rfl) with ⟨b1, b2⟩ | h
    · rcases hor (a := -1) (d := 1) (.inr rfl) (.inl rfl) with ⟨c1, c2⟩ | h
      · -- all four are alike
        exfalso
        have w : q (x + -1, y) = true → q (x + 1, y) = true := fun z => a2 (c1 z)
        have w' : q (x + 1, y) = true → q (x + -1, y) = true := fun z => c2 (a1 z)
        have hu' : q (x + 1, y) = true := by
          rcases hu with ⟨e1, e2⟩ | ⟨e1, e2⟩ | ⟨e1, e2⟩ | ⟨e1, e2⟩
          · rw [e1, e2, Int.sub_eq_add_neg] at hqu
            exact w hqu
          · rw [e1, e2, Int.sub_eq_add_neg] at hqu
            exact b2 hqu
          · rw [e1, e2] at hqu
            exact hqu
          · rw [e1, e2] at hqu
            exact a2 hqu
        have hv' : q (v1, v2) = true := by
          rcases hv with ⟨e1, e2⟩ | ⟨e1, e2⟩ | ⟨e1, e2⟩ | ⟨e1, e2⟩
          · rw [e1, e2, Int.sub_eq_add_neg]
            exact w' hu'
          · rw [e1, e2, Int.sub_eq_add_neg]
            exact b1 hu'
          · rw [e1, e2]
            exact hu'
          · rw [e1, e2]
            exact a1 hu'
        rw [hqv] at hv'
        cases hv'
      · exact h
    · exact h
  · exact h
theorem ex_max : ∀ (l : List Cell), l ≠ [] → ∃ m, m ∈ l ∧ ∀ z, z ∈ l → z.1 < m.1 ∨ (z.1 = m.1 ∧ z.2 ≤ m.2)
  | [], h => absurd rfl h
  | x :: r, _ => by
    by_cases hr : r = []
    · refine ⟨x, List.mem_cons_self, fun z hz => ?_⟩
      rw [hr] at hz
      rw [List.mem_singleton.mp hz]
      exact .inr ⟨rfl, Int.le_refl _⟩
    · obtain ⟨m, hm, h⟩ := ex_max r hr
      by_cases e : x.1 < m.1 ∨ (x.1 = m.1 ∧ x.2 ≤ m.2)
      · refine ⟨m, List.mem_cons_of_mem _ hm, fun z hz => ?_⟩
        rcases List.mem_cons.mp hz with g | g
        · rw [g]
          exact e
        · exact h z g
      · refine ⟨x, List.mem_cons_self, fun z hz => ?_⟩
        rcases List.mem_cons.mp hz with g | g
        · rw [g]
          exact .inr ⟨rfl, Int.le_refl _⟩
        · have := h z g
          omega
theorem ex_min : ∀ (l : List Cell), l ≠ [] → ∃ m, m ∈ l ∧ ∀ z, z ∈ l → m.1 < z.1 ∨ (z.1 = m.1 ∧ m.2 ≤ z.2)
  | [], h => absurd rfl h
  | x :: r, _ => by
    by_cases hr : r = []
    · refine ⟨x, List.mem_cons_self, fun z hz => ?_⟩
      rw [hr] at hz
      rw [List.mem_singleton.mp hz]
      exact .inr ⟨rfl, Int.le_refl _⟩
    · obtain ⟨m, hm, h⟩ := ex_min r hr
      by_cases e : m.1 < x.1 ∨ (x.1 = m.1 ∧ m.2 ≤ x.2)
      · refine ⟨m, List.mem_cons_of_mem _ hm, fun z hz => ?_⟩
        rcases List.mem_cons.mp hz with g | g
        · rw [g]
          exact e
        · exact h z g
      · refine ⟨x, List.mem_cons_self, fun z hz => ?_⟩
        rcases List.mem_cons.mp hz with g | g
        · rw [g]
          exact .inr ⟨rfl, Int.le_refl _⟩
        · have := h z g
          omega
/-- a square, other than r, with an empty side, whose full sides are two at most -/
theorem ex_edge {B : List Cell} (hn : B.Nodup) (hl : 2 ≤ B.length) (r : Cell) : ∃ s u v z, s ∈ B ∧ s ≠ r ∧ z ∈ nbs s ∧ z ∉ B ∧ u ∈ nbs s ∧ v ∈ nbs s ∧ ∀ w, w ∈ nbs s → w ∈ B → w = u ∨ w = v := by
  have hne : B ≠ [] := fun z => by
    rw [z] at hl
    exact absurd hl (by decide)
  obtain ⟨m, hm, h1⟩ := ex_max B hne
  obtain ⟨k, hk, h2⟩ := ex_min B hne
  have hmk : m ≠ k := fun e => by
    have : ∀ z, z ∈ B → z ∈ [m] := fun z hz => by
      have a := h1 z hz
      have b := h2 z hz
      rw [← e] at b
      exact List.mem_singleton.mpr (Prod.ext (by omega) (by omega))
    have := nodup_len hn this
    rw [List.length_singleton] at this
    omega
  by_cases e : m = r
  · have hkr : k ≠ r := fun z => hmk (by rw [e, z])
    refine ⟨k, (k.1 + 1, k.2), (k.1, k.2 + 1), (k.1 - 1, k.2), hk, hkr, by simp [nbs], fun hz => ?_, by simp [nbs], by simp [nbs], fun w hw hB => ?_⟩
    · have h3 : k.1 < k.1 - 1 ∨ (k.1 - 1 = k.1 ∧ k.2 ≤ k.2) := h2 _ hz
      omega
    · have h3 := h2 w hB
      obtain ⟨w1, w2⟩ := w
      simp only [nbs, List.mem_cons, Prod.mk.injEq, List.not_mem_nil, or_false] at hw
      simp only at h3
      rw [Prod.mk.injEq, Prod.mk.injEq]
      omega
  · refine ⟨m, (m.1 - 1, m.2), (m.1, m.2 - 1), (m.1 + 1, m.2), hm, e, by simp [nbs], fun hz => ?_, by simp [nbs], by simp [nbs], fun w hw hB => ?_⟩
    · have h3 : m.1 + 1 < m.1 ∨ (m.1 + 1 = m.1 ∧ m.2 ≤ m.2) := h1 _ hz
      omega
    · have h3 := h1 w hB
      obtain ⟨w1, w2⟩ := w
      simp only [nbs, List.mem_cons, Prod.mk.injEq, List.not_mem_nil, or_false] at hw
      simp only at h3
      rw [Prod.mk.injEq, Prod.mk.injEq]
      omega
/-- each square is reached, without s, from a neighbour of s -/
theorem from_near {B : List Cell} {s x : Cell} (hB : Hang B) (hs : s ∈ B) (hx : x ∈ rest B s) : ∃ w, w ∈ nbs s ∧ w ∈ B ∧ Reach (· ∈ rest B s) w x := by
  have key : ∀ y, Reach (· ∈ B) s y → y = s ∨ ∃ w, w ∈ nbs s ∧ w ∈ B ∧ Reach (· ∈ rest B s) w y := fun y h => by
    induction h with
    | refl _ => exact .inl rfl
    | @step y z h a st ih =>
      by_cases e : z = s
      · exact .inl e
      · have hz : z ∈ rest B s := mem_rest.mpr ⟨st, e⟩
        rcases ih with g | ⟨w, w1, w2, w3⟩
        · rw [g] at a
          exact .inr ⟨z, a, st, .refl hz⟩
        · exact .inr ⟨w, w1, w2, .step w3 a hz⟩
  obtain ⟨h1, h2⟩ := mem_rest.mp hx
  exact (key x (hB.2 s hs x h1)).resolve_left h2
open Classical in
/-- a free square with an empty side, other than r -/
theorem ex_free : ∀ (n : Nat) (B : List Cell), B.length ≤ n → Hang B → B.Nodup → 2 ≤ B.length → ∀ r, r ∈ B → ∃ f, f ∈ B ∧ f ≠ r ∧ Hang (rest B f) ∧ ∃ z, z ∈ nbs f ∧ z ∉ B
  | 0, B, hn, _, _, hl, _, _ => by omega
  | n + 1, B, hn, hB, hnd, hl, r, hr => by
    obtain ⟨s, u, v, z, hs, hsr, hz, hzB, hu, hv, huv⟩ := ex_edge hnd hl r
    by_cases hfree : Hang (rest B s)
    · exact ⟨s, hs, hsr, hfree, z, hz, hzB⟩
    · have hrr : r ∈ rest B s := mem_rest.mpr ⟨hr, fun e => hsr e.symm⟩
      -- the two sides, one away from r
      have main : ∀ p q : Cell, p ∈ nbs s → q ∈ nbs s → (∀ w, w ∈ nbs s → w ∈ B → w = p ∨ w = q) → Reach (· ∈ rest B s) p r → (∃ x, x ∈ rest B s ∧ ¬ Reach (· ∈ rest B s) p x) → ∃ f, f ∈ B ∧ f ≠ r ∧ Hang (rest B f) ∧ ∃ z, z ∈ nbs f ∧ z ∉ B := by
        intro p q hp hq hpq hpr ⟨x, hx, hnx⟩
        have hqx : Reach (· ∈ rest B s) q x := by
          obtain ⟨w, w1, w2, w3⟩ := from_near hB hs hx
          rcases hpq w w1 w2 with g | g
          · rw [g] at w3
            exact absurd w3 hnx
          · rw [g] at w3
            exact w3
        have hqr : q ∈ rest B s := hqx.src
        have hpr' : p ∈ rest B s := hpr.src
        have hnpq : ¬ Reach (· ∈ rest B s) q p := fun g => hnx (g.sy.tr hqx)
        let B' := B.filter fun x => decide (x = s ∨ Reach (· ∈ rest B s) q x)
        have mB : ∀ x, x ∈ B' ↔ x ∈ B ∧ (x = s ∨ Reach (· ∈ rest B s) q x) := fun x => by
          rw [List.mem_filter, decide_eq_true_iff]
        have hsB' : s ∈ B' := (mB s).mpr ⟨hs, .inl rfl⟩
        have hqB' : q ∈ B' := (mB q).mpr ⟨(mem_rest.mp hqr).1, .inr (.refl hqr)⟩
        have hpB' : p ∉ B' := fun g => by
          rcases ((mB p).mp g).2 with e | e
          · exact (mem_rest.mp hpr').2 e
          · exact hnpq e
        have hnd' : B'.Nodup := hnd.filter _
        have hlt : B'.length < B.length := by
          have := nodup_len (xs := p :: B') (ys := B) (List.nodup_cons.mpr ⟨hpB', hnd'⟩) fun y hy => by
            rcases List.mem_cons.mp hy with e | e
            · rw [e]
              exact (mem_rest.mp hpr').1
            · exact ((mB y).mp e).1
          rw [List.length_cons] at this
          omega
        have hsq : s ≠ q := fun e => (mem_rest.mp hqr).2 e.symm
        have h2 : 2 ≤ B'.length := by
          have := nodup_len (xs := [s, q]) (ys := B') (by simp [hsq]) fun y hy => by
            rcases List.mem_cons.mp hy with e | e
            · rw [e]
              exact hsB'
            · rw [List.mem_singleton.mp e]
              exact hqB'
          exact this
        have insideB' : ∀ x, Reach (· ∈ rest B s) q x → Reach (· ∈ B') q x := fun x h => by
          induction h with
          | refl h => exact .refl hqB'
          | step h a st ih => exact .step ih a ((mB _).mpr ⟨(mem_rest.mp st).1, .inr (.step h a st)⟩)
        have hB' : Hang B' := hang_of hsB' fun x hx => by
          rcases ((mB x).mp hx).2 with e | e
          · rw [e]
            exact .refl hsB'
          · exact (Reach.step (.refl hsB') hq hqB').tr (insideB' x e)
        obtain ⟨f, f1, f2, f3, zz, z1, z2⟩ := ex_free n B' (by omega) hB' hnd' h2 s hsB'
        have fB := ((mB f).mp f1).1
        have fq : Reach (· ∈ rest B s) q f := ((mB f).mp f1).2.resolve_left f2
        have hfr : f ≠ r := fun e => by
          rw [e] at fq
          exact hnpq (fq.tr hpr.sy)
        refine ⟨f, fB, hfr, ?_, zz, z1, fun g => z2 ?_⟩
        · have hsf : s ∈ rest B f := mem_rest.mpr ⟨hs, fun e => f2 e.symm⟩
          refine hang_of hsf fun x hx => ?_
          obtain ⟨x1, x2⟩ := mem_rest.mp hx
          by_cases hxB' : x ∈ B'
          · refine (f3.2 s (mem_rest.mpr ⟨hsB', fun e => f2 e.symm⟩) x (mem_rest.mpr ⟨hxB', x2⟩)).wide fun y hy => ?_
            obtain ⟨y1, y2⟩ := mem_rest.mp hy
            exact mem_rest.mpr ⟨((mB y).mp y1).1, y2⟩
          · have hxs : x ≠ s := fun e => hxB' ((mB x).mpr ⟨x1, .inl e⟩)
            have hpx : Reach (· ∈ rest B s) p x := by
              obtain ⟨w, w1, w2, w3⟩ := from_near hB hs (mem_rest.mpr ⟨x1, hxs⟩)
              rcases hpq w w1 w2 with g | g
              · rw [g] at w3
                exact w3
              · rw [g] at w3
                exact absurd ((mB x).mpr ⟨x1, .inr w3⟩) hxB'
            have go : ∀ y, Reach (· ∈ rest B s) p y → Reach (· ∈ rest B f) p y := fun y h => by
              have notf : ∀ y, Reach (· ∈ rest B s) p y → y ≠ f := fun y h e => by
                rw [e] at h
                exact hnpq (fq.tr h.sy)
              induction h with
              | refl h => exact .refl (mem_rest.mpr ⟨(mem_rest.mp h).1, notf _ (.refl h)⟩)
              | step h a st ih => exact .step ih a (mem_rest.mpr ⟨(mem_rest.mp st).1, notf _ (.step h a st)⟩)
            exact (Reach.step (.refl hsf) hp (go p (.refl hpr')).src).tr (go x hpx)
        · have hzs : zz ≠ s := fun e => z2 (by rw [e]; exact hsB')
          exact (mB zz).mpr ⟨g, .inr (.step fq z1 (mem_rest.mpr ⟨g, hzs⟩))⟩
      -- which side holds r
      obtain ⟨w, w1, w2, w3⟩ := from_near hB hs hrr
      have hno : ∀ p, Reach (· ∈ rest B s) p r → ∃ x, x ∈ rest B s ∧ ¬ Reach (· ∈ rest B s) p x := fun p hp => by
        refine Classical.byContradiction fun hall => hfree (hang_of hp.src fun x hx => Classical.byContradiction fun hn => hall ⟨x, hx, hn⟩)
      rcases huv w w1 w2 with g | g
      · rw [g] at w3
        exact main u v hu hv huv w3 (hno u w3)
      · rw [g] at w3
        exact main v u hv hu (fun w a b => (huv w a b).symm) w3 (hno v w3)
theorem ex_move {B : List Cell} (hB : Hang B) (hn : B.Nodup) (hl : 2 ≤ B.length) : ∃ f e, okMove B f e = true := by
  obtain ⟨r, rr, er⟩ := ne_cons hB.1
  have hr : r ∈ B := by rw [er]; exact List.mem_cons_self
  obtain ⟨f, hf, _, hfree, z, hz, hzB⟩ := ex_free B.length B (Nat.le_refl _) hB hn hl r hr
  obtain ⟨u, hu, huB⟩ := near_ex hB hf hfree
  obtain ⟨e, he⟩ := mv_any (q := isIn B) (decide_eq_true hf) hu (decide_eq_true huB) hz (decide_eq_false hzB)
  exact ⟨f, e, okMove_iff.mpr ⟨he, hfree⟩⟩
end TB
set_option Elab.async false
set_option linter.all false
set_option maxRecDepth 100000
set_option maxHeartbeats 4000000
/-! TN: a try with several clauses, each of which names its error; a call of a def that may raise, where it does not. -/
namespace L2
open PySem PySem.Spec PyProof.Rows
/-- the wish of the clauses, one behind the other; (class, slot of the name, suite) -/
def wNamed (K : PySem.W.Frag) (Wo : WX) (D : Ends) : List (Value × Nat × (Addr → Value → Option Addr → TS)) → WX
  | [] => Wo
  | (c, j, su) :: more => fun cl dd τ G => ∃ yes, PySem.W.exmOne K cl c = some yes ∧
      (yes = true → ∀ z, G z = none → su z cl dd { nx := fun τ1 G1 => D.nx (τ1.set j none) G1, rt := D.rt, bk := fun τ1 G1 => D.bk (τ1.set j none) G1, ct := fun τ1 G1 => D.ct (τ1.set j none) G1 } (τ.set j (some (.ref z))) G) ∧ (yes = false → wNamed K Wo D more cl dd τ G)
inductive Clauses (X : Cx) : List ExceptHandler → List (Value × Nat × (Addr → Value → Option Addr → TS)) → Prop
  | none : Clauses X [] []
  | one {x m : Str} {c : Value} {j : Nat} {su : Addr → Value → Option Addr → TS} {first : Stmt} {others : List Stmt} {px py : Pos} {hs : List ExceptHandler} {ws : List (Value × Nat × (Addr → Value → Option Addr → TS))}
      (at' : X.N[j]? = some m) (loc : X.env.kindOf m = some .local) (nm : Names X x c)
      (ok : ∀ (z : Addr) (oz : Obj) (cl : Value) (dd : Option Addr) (pp : List (Addr × Obj)), Zc cl dd oz → (∃ fv, oz.data = .fields fv) → PSs (X.suite z ((z, oz) :: pp)) (first :: others) (su z cl dd)) (r : Clauses X hs ws) :
      Clauses X (.ExceptHandler (some (.Name x px)) (some m) (first :: others) py :: hs) ((c, j, su) :: ws)
section
variable {X : Cx} {bd : List Stmt} {k₀ : ExceptHandler} {ks : List ExceptHandler} {ws : List (Value × Nat × (Addr → Value → Option Addr → TS))} {tp : Pos} {tb : WX → TS} {Wo : WX}
theorem ps_try_named (stk : X.stack = X.env :: X.outer) (frm : X.env.frame = some X.env.locals) (nod : X.N.Nodup) (tak : Takes X Wo)
    (hbd : ∀ (W : WX) (pp : List (Addr × Obj)) (xx : Value → Shared → Prop), Takes (X.tr pp xx) W → PassesOwn (model X.prog X.w) X.A X.env xx → PSs (X.tr pp xx) bd (tb W))
    (cls : Clauses X (k₀ :: ks) ws) : PS X (.Try bd (k₀ :: ks) [] [] tp) (fun D τ G => tb (wNamed X.K Wo D ws) D τ G) := by
  refine ⟨fun ps s τ G D J0 hyp => ?_⟩
  have okx := J0.ok
  have frs' : X.A.frames = some (X.env :: X.outer) := (okx.frames).trans (by rw [stk])
  refine wpAny_Try_except ?_
  refine wpAny_mono ((hbd (wNamed X.K Wo D ws) (X.pn ++ ps) (fun er s₁ => wpAny (model X.prog X.w) X.A (noteFrame er X.env) (fun _ s₂ => wpAny (model X.prog X.w) X.A (setFlight er none) (fun _ s₃ => wpAny (model X.prog X.w) X.A (handleBy er X.env (k₀ :: ks)) (SP X ps D) X.xe s₃) X.xe s₂) X.xe s₁)
    (fun u s1 thrown => ?_) PassesOwn.looking).run [] s τ G D (J0.toTry _) hyp) (fun fl s1 after => ?_) (fun er s1 z => z)
  · -- what was raised
    obtain ⟨z, Bs, sJ, pl, τ1, G1, cl, dd, rfl, J', nob, upto, inSky, fresh, osE, bareE, wish⟩ := thrown
    have J : Inv X ps τ1 G1 sJ := J'.ofTry okx
    have sk1 : Sky Bs (X.env :: X.outer) z (Zc cl dd) X.env.locals s1.heap := stk ▸ inSky
    show wpAny (model X.prog X.w) X.A (noteFrame (.ref z) X.env) _ _ _
    refine Sky.land Zc.steady frs' frm sk1 fun hA flA upA => ?_
    have JA : Inv X ps τ1 G1 { s1 with heap := hA } := J.landed nob flA.1 (upto.trans upA) osE bareE
    obtain ⟨oA, fvA, getA, zcA, dataA⟩ := flA.there
    have nframe : z ∉ frs (X.env :: X.outer) := fun isin => by
      obtain ⟨_, oo, eo, nof⟩ := flA.2.2.1.mem isin
      rw [getA] at eo
      cases eo
      exact nof _ dataA
    have nloc : z ≠ X.env.locals := fun eq => nframe (List.mem_filterMap.mpr ⟨X.env, List.mem_cons_self, by rw [frm, eq]⟩)
    have nfs : z ∉ X.fs := fun isin => by
      obtain ⟨en, hen, eqn⟩ := List.mem_filterMap.mp isin
      exact nframe (List.mem_filterMap.mpr ⟨en, List.mem_cons_of_mem _ hen, eqn⟩)
    have SA := JA.suite getA dataA fresh nloc nfs
    have turn : ∀ {hs : List ExceptHandler} {vs : List (Value × Nat × (Addr → Value → Option Addr → TS))}, Clauses X hs vs → wNamed X.K Wo D vs cl dd τ1 G1 → wpAny (model X.prog X.w) X.A (handleBy (.ref z) X.env hs) (SP X ps D) X.xe { s1 with heap := hA } := by
      intro hs vs hcl
      induction hcl with
      | none =>
        intro wout
        refine wpAny_handleBy_nil ?_
        obtain ⟨_, _, _, oN, fvN, TN, oTN, tsN, getN, _, dataN, oneN, _⟩ := id flA
        unfold PySem.passOn
        refine wpAny_bind (wpAny_field getN dataN oneN ?_)
        rw [if_neg (show ¬ ((Value.ref TN == Value.none) = true) from by simp)]
        have leave : wpAny (model X.prog X.w) X.A (setFlight (.ref z) X.env.frame) (fun _ s4 => wpAny (model X.prog X.w) X.A (throw (.ref z) : Sem Flow) (SP X ps D) X.xe s4) X.xe { s1 with heap := hA } := by
          rw [frm]
          exact HandSPX.setFlight_upZ flA fun hB heldB upB => wpAny_throw (tak _ _ ⟨z, Bs, sJ, ps, τ1, G1, cl, dd, rfl, J, nob, (upto.trans upA).trans upB, .inr (.inr (stk.symm ▸ heldB)), fresh, osE, bareE, wout⟩)
        first | exact wpAny_bind leave | exact wpAny_bind (wpAny_pure (wpAny_bind leave))
      | @one x m c j su first others px py hs2 ws2 at' loc nm ok rr ih =>
        intro wst
        obtain ⟨yes, isOne, onYes, onNo⟩ := wst
        refine wpAny_handleBy_cons (codeAny_handlers_test ?_) (fun q => by cases q)
        have looksT : PySem.W.Looks (model X.prog X.w) hA (typeOf (.ref z)) cl := fun A Q E s kk qq => wpAny_typeOf_ref (kk _ _ getA) (by rw [zcA.1]; exact qq)
        have looksM := PySem.W.exm_one (M := model X.prog X.w) JA.kIn looksT isOne
        have named : ∀ {Q E : Value → Shared → Prop}, Q c { s1 with heap := hA } → wpAny (model X.prog X.w) (X.A.mark (some (.ref z))) (eval (.Name x px) X.env) Q E { s1 with heap := hA } := fun {Q E} qq => by
          rcases nm with ⟨gl, nodb, inM | ⟨notM, isB, notN⟩⟩
          · exact ld_glob (X := X.suite z ((z, oA) :: (X.pn ++ ps))) SA gl inM qq nodb
          · exact ld_blt (X := X.suite z ((z, oA) :: (X.pn ++ ps))) SA gl notM isB qq notN nodb
        refine named (looksM.here ?_)
        cases yes with
        | false =>
          show wpAny _ X.A (handleBy (.ref z) X.env hs2) _ _ _
          exact ih (onNo rfl)
        | true =>
          refine codeAny_handlers_suite_as (HandSPX.lands_againZ flA fun hB flB upB => ?_)
          have JB : Inv X ps τ1 G1 { s1 with heap := hB } := J.landed nob flB.1 ((upto.trans upA).trans upB) osE bareE
          obtain ⟨oB, fvB, getB, zcB, dataB⟩ := flB.there
          have SB := JB.suite getB dataB fresh nloc nfs
          refine store_ok (X := X.suite z ((z, oB) :: (X.pn ++ ps))) (v := .ref z) SB nod at' (.inl loc) rfl (fun s5 S5 => ?_) (.inr loc)
          refine wpAny_mono ((ok z oB cl dd (X.pn ++ ps) zcB ⟨_, dataB⟩).run [] s5 _ G1 _ S5 (onYes rfl z fresh)) (fun ff s6 done => ?_) (fun _ _ no => no.elim)
          have away : ∀ {τ6 : St} {G6 : Hp} {Q : Shared → Prop}, Inv (X.suite z ((z, oB) :: (X.pn ++ ps))) [] τ6 G6 s6 → (∀ s7, Inv X ps (τ6.set j none) G6 s7 → Q s7) → wpAny (model X.prog X.w) X.A (do bindName X.env m .none; unbindBehindTheSuite X.env m py) (fun _ s7 => Q s7) X.xe s6 :=
            fun {τ6 G6 Q} S6 fin => gone_ok (S6.unsuite okx) nod at' loc fin
          rcases ff with _ | _ | _ | u
          · obtain ⟨τ6, G6, S6, q6⟩ := done
            exact away S6 fun s7 J7 => ⟨_, _, J7, q6⟩
          · obtain ⟨τ6, G6, S6, q6⟩ := done
            exact away S6 fun s7 J7 => ⟨_, _, J7, q6⟩
          · obtain ⟨τ6, G6, S6, q6⟩ := done
            exact away S6 fun s7 J7 => ⟨_, _, J7, q6⟩
          · obtain ⟨v6, τ6, G6, S6, r6, q6⟩ := done
            exact away S6 fun s7 J7 => ⟨_, _, _, J7, r6, q6⟩
    exact turn cls wish
  · rcases fl with _ | _ | _ | u
    · obtain ⟨τ1, G1, J1, q1⟩ := after
      exact wpAny_execs_nil ⟨τ1, G1, J1.ofTry okx, q1⟩
    · obtain ⟨τ1, G1, J1, q1⟩ := after
      exact ⟨τ1, G1, J1.ofTry okx, q1⟩
    · obtain ⟨τ1, G1, J1, q1⟩ := after
      exact ⟨τ1, G1, J1.ofTry okx, q1⟩
    · obtain ⟨v1, τ1, G1, J1, r1, q1⟩ := after
      exact ⟨v1, τ1, G1, J1.ofTry okx, r1, q1⟩
end
end L2
namespace TB
open PySem PySem.Spec PyProof.Rows L2
theorem passN {X : Cx} {σ : L2.St} : PassesAt (L2.CX X.prog X.w) X σ E0 := fun _ _ _ _ _ _ h => by
  obtain ⟨_, _, _, _, _, _, _, _, _, _, _, _, no⟩ := h
  exact no.elim
/-- a call of a def that may raise, where it does not -/
theorem pe_calN {X : Cx} {x : Str} {ps : List Str} {sp : Sp} {k : Nat} {e : Expr} {es : List Expr} {t : TA} {p pos : Pos} (C : CalX X.prog X.w X.K X.mg X.base k x ps sp) (hr : Room k X.A) (ha : PA X (e :: es) t) (hg : Gl X x := by rfl)
    (hdb : (x == ("__debug__" : Str)) = false := by decide) (he : starEach (e :: es) X.env = (false, eval e X.env) :: starEach es X.env := by rfl) (hpl : (backTo pos (starEach es X.env)).any (·.1) = false := by rfl) :
    PE X (.Call (.Name x p) (e :: es) [] pos) (tCallS sp (fun _ => E0) t) := pe_calX C hr (fun σ => passN) ha hg hdb he hpl
end TB
set_option Elab.async false
set_option linter.all false
set_option maxRecDepth 100000
set_option maxHeartbeats 4000000
/-! TP: {k: v}, k a tuple. -/
namespace TB
open PySem PySem.Spec PyProof.Rows L2
def tDispT (tk tv : TE) : TE := fun σ H Q => ∀ p, H p = none → tk σ (upd H p (.dT [])) fun x H1 => tv σ H1 fun z H2 => H2 p = some (.dT []) ∧ ∃ (b : Addr) (ks : List L2.Key), x = .ref b ∧ H2 b = some (.tup (ks.map kV)) ∧ Q (.ref p) (upd H2 p (.dT [(ks, z)]))
def qD (Q : VK) (p : Addr) : List (V × V) → Hp → Prop
  | [(x, z)], H2 => H2 p = some (.dT []) ∧ ∃ (b : Addr) (ks : List L2.Key), x = .ref b ∧ H2 b = some (.tup (ks.map kV)) ∧ Q (.ref p) (upd H2 p (.dT [(ks, z)]))
  | _, _ => False
theorem qQ {p : Addr} {tk tv : TE} {σ : TSt} {H : Hp} {Q : VK} (hn : H p = none) (q : tDispT tk tv σ H Q) : tPairs [(tk, tv)] σ (upd H p (.dT [])) (qD Q p) := q p hn
theorem pe_dispT {X : Cx} {k v : Expr} {pos : Pos} {tk tv : TE} (hu : X.A.units + 64 < cLine) (hk : PE X k tk) (hv : PE X v tv) : PE X (.Dict [some k] [v] pos) (tDispT tk tv) := by
  refine ⟨fun pins s σ H Q I q => ?_⟩
  have hn := I.hok.fresh (Nat.le_refl s.heap.objs.size)
  have I1 := I.laid (a := s.heap.objs.size) (o := .dT []) (h' := s.heap.push { cls := .type "dict", data := .dict #[] }) (t' := s.toks) (fun _ _ q => Heap.get?_push_of_some _ q) (Nat.le_refl _) (dt_empty s.heap I.big)
  have P : PPs X pos [some k] [v] [(tk, tv)] := pps_cons hk hv pps_nil
  have hl := pairTrees_length [some k] [v] X.env pos rfl rfl
  show wpAny (model X.prog X.w) X.A (eval (.Dict [some k] [v] pos) X.env) _ _ _
  rw [arm_eval_Dict, zip_pairTrees [some k] [v] X.env pos rfl rfl, dictDisplay_pairs (pairTrees [some k] [v] X.env pos) (fun he => by rw [he] at hl; cases hl) (by rw [hl]; show 1 < 17; decide)]
  refine wpAny_bind (wpAny_standAt (wpAny_bind (wpAny_subDictH (knd := tupleKind (mixKind X.prog X.w)) (Q := fun d s' => wpAny (model X.prog X.w) X.A (pure (Value.ref d)) _ _ s') (show X.A.units < cLine by omega) (by rw [hl]; show 1 ≤ 15; decide)
    (thn (P.run pins _ σ _ (qD Q s.heap.objs.size) I1 (qQ hn q)) fun ws s2 ⟨ps, H2, I2, rel, qq⟩ => ?_))))
  match ps, qq with
  | [(x, z)], ⟨e, b, ks, ex, hb, q2⟩ =>
    subst ex
    obtain ⟨w0, rfl, r0⟩ : ∃ w0, ws = [w0] ∧ RelV (V.ref b) w0.1 ∧ RelV z w0.2 := by
      cases rel with
      | cons r0 rn =>
        cases rn
        exact ⟨_, rfl, r0⟩
    obtain ⟨r1, rz⟩ := r0
    obtain ⟨wk, wv⟩ := w0
    cases r1
    obtain ⟨z1, hd, xs, rel, dd⟩ := dt_of I2.hok e
    cases rel
    refine ⟨[(ks, b, wv)], ⟨rfl, rfl, key_of I2.hok hb, trivial⟩, dd, fun h' tk dd' hs => wpAny_pure ⟨.ref s.heap.objs.size, _, ?_, rfl, q2⟩⟩
    obtain ⟨o, es, ep, hq, h2, h3, h4, _, h5⟩ := dd'
    have hp : KT H2 (putK [] ks z) (storedH [] ks b wv) := KT.put .nil ks hb rz
    refine d_write I2 (by rw [e]; exact True.intro) hs ⟨o, hq⟩ ⟨by show 1 ≤ sizeLine; decide, hd, _, hp.keeps fun c ys ec => ?_, o, es, ep, hq, h2, h3, h4, h5⟩
    rw [upd_ne (ne_of ec e (fun z => nomatch z))]
    exact ec
end TB
set_option Elab.async false
set_option linter.all false
set_option maxRecDepth 100000
set_option maxHeartbeats 4000000
/-! D80: the law's witness, the law's papers, exactly. -/
namespace TB
open PySem PySem.Spec PyProof.Rows L2
theorem ev_minX {s : TSt} {H : Hp} {ta : TE} {α : Type} [DecidableEq α] [Enc α] [EncO α] {xs : List α} (ha : EvP ta s H (li xs)) (hne : xs ≠ []) : EvP (tCB (rMinE α) (tCons ta tNil)) s H (enX fun x : α => x ∈ xs ∧ ∃ y r, xs = y :: r ∧ x = leastOf y r) := fun H1 e Q q =>
  ha H1 e _ fun v H2 e2 ⟨l, ev, hl⟩ => by
    cases xs with
    | nil => exact absurd rfl hne
    | cons x r => exact ⟨l, x, r, by rw [ev], hl, fun u hu => q u H2 e2 ⟨_, ⟨leastOf_mem x r, x, r, rfl, rfl⟩, hu⟩⟩
/-- the paper of a move, exactly -/
structure PaX (b : List Cell) (m : Cell × Cell) (p : Paper) : Prop where
  s : p.s = m.1
  e : p.e = m.2
  sup : ∃ r, supp (isIn b) m.1 m.2 = p.sup :: r
  wit : WitOf b m.1 p.wit
theorem PaX.one {b : List Cell} {m : Cell × Cell} {p p' : Paper} (h : PaX b m p) (h' : PaX b m p') : p = p' := by
  obtain ⟨s, e, su, w⟩ := p
  obtain ⟨s', e', su', w'⟩ := p'
  obtain ⟨h1, h2, ⟨r, h3⟩, h4⟩ := h
  obtain ⟨g1, g2, ⟨r', g3⟩, g4⟩ := h'
  have k1 : s = s' := h1.trans g1.symm
  have k2 : e = e' := h2.trans g2.symm
  rw [h3] at g3
  injection g3 with k3 _
  have k3 : su = su' := k3
  have k4 : w = w' := h4.one g4
  rw [k1, k2, k3, k4]
def PapX (b : List Cell) (pl : List (Cell × Cell)) (ps : List Paper) : Prop := ps.length = pl.length ∧ ∀ i m p, pl[i]? = some m → ps[i]? = some p → PaX (endB b (pl.take i)) m p
theorem PapX.snoc {b : List Cell} {pl : List (Cell × Cell)} {ps : List Paper} {m : Cell × Cell} {p : Paper} (h : PapX b pl ps) (hp : PaX (endB b pl) m p) : PapX b (pl ++ [m]) (ps ++ [p]) := by
  obtain ⟨h1, h2⟩ := h
  refine ⟨by rw [List.length_append, List.length_append, h1]; rfl, fun i m' p' hm' hp' => ?_⟩
  by_cases e : i < pl.length
  · rw [List.getElem?_append_left e] at hm'
    rw [List.getElem?_append_left (by omega)] at hp'
    rw [List.take_append_of_le_length (by omega)]
    exact h2 i m' p' hm' hp'
  · have hi : i = pl.length := by
      have := (List.getElem?_eq_some_iff.mp hm').1
      rw [List.length_append, List.length_singleton] at this
      omega
    subst hi
    rw [List.getElem?_append_right (Nat.le_refl _), Nat.sub_self] at hm'
    rw [List.getElem?_append_right (by omega), h1, Nat.sub_self] at hp'
    have e1 : m = m' := Option.some.inj hm'
    have e2 : p = p' := Option.some.inj hp'
    subst e1
    subst e2
    rw [List.take_left']
    · exact hp
    · rfl
theorem PapX.one {b : List Cell} {pl : List (Cell × Cell)} {ps ps' : List Paper} (h : PapX b pl ps) (h' : PapX b pl ps') : ps = ps' := by
  obtain ⟨h1, h2⟩ := h
  obtain ⟨g1, g2⟩ := h'
  refine List.ext_getElem? fun i => ?_
  by_cases hi : i < pl.length
  · have e0 : pl[i]? = some pl[i] := List.getElem?_eq_getElem hi
    have e1 : ps[i]? = some (ps[i]'(by omega)) := List.getElem?_eq_getElem (by omega)
    have e2 : ps'[i]? = some (ps'[i]'(by omega)) := List.getElem?_eq_getElem (by omega)
    rw [e1, e2, (h2 i _ _ e0 e1).one (g2 i _ _ e0 e2)]
  · rw [List.getElem?_eq_none (by omega), List.getElem?_eq_none (by omega)]
theorem PapX.pap {b : List Cell} {pl : List (Cell × Cell)} {ps : List Paper} (h : PapX b pl ps) (hb : Hang b) (hok : okPlan b pl = true) : IsPap b pl ps := by
  obtain ⟨h1, h2⟩ := h
  refine ⟨h1, fun i m p hm hp => ?_⟩
  obtain ⟨a1, a2, a3, a4⟩ := h2 i m p hm hp
  have hmv := okPlan_at hok hm
  obtain ⟨_, hfree⟩ := okMove_iff.mp hmv
  exact ⟨a1, a2, a3, a4.wit (near_ex (endB_hang hb (okPlan_pre hok i)) (okMove_in hmv).1 hfree)⟩
section
variable {P : Program} {w : World} {K : PySem.W.Frag} {mg : Str → Option Value} {base : Heap}
def spWitnessX : Sp := S2 fun P1 P2 Pz => ∃ (b : List Cell) (c : Cell), P1 = en b ∧ P2 = en c ∧ b.length ≤ 1000 ∧ Hang (rest b c) ∧ (∃ z, z ∈ nbs c ∧ z ∈ b) ∧ Pz = enX (WitOf b c)
theorem ok_law_witnessX (T : Txt K mg "_law_t2_witness" "_law_t2_witness" s_law_t2_witness ["_law_body", "_law_start"]) (Z : Blt mg) (C_law_t2_squares : Cal P w K mg base 1 "_law_t2_squares" ["_law_body"] spSquares)
    (C_law_t2_beside : Cal P w K mg base 1 "_law_t2_beside" ["_law_cell"] spBesideL) : Cal P w K mg base 2 "_law_t2_witness" ["_law_body", "_law_start"] spWitnessX :=
  T.cal sc_law_t2_witness S2.len fun f cdv A outer s H vs Q E hr h => by
    obtain ⟨v1, v2, P1, P2, Pz, rfl, ⟨b, c, rfl, rfl, hlen, hhang, ⟨z0, hz0, hz0b⟩, rfl⟩, h1, h2, q⟩ := h
    refine ⟨_, (pss_cons (ps_set (i := 2) sc_law_t2_witness.nd rfl (Or.inr rfl) (pe_cal C_law_t2_squares (hr.mono (by decide)) (pa_cons (pe_lc (own := [("_law_cell", 8)]) (g := gName 8) rfl sc_law_t2_witness.nd (pi_tup (pv 0)) (blkOk_by (N := n_law_t2_witness) (sc := defScope s_law_t2_witness) (by decide +kernel)) (fun _ _ _ _ _ => (pg_name (i := 8) sc_law_t2_witness.nd rfl (Or.inl rfl))) (fun _ _ _ _ _ => (pts_one (pt_cmpR (op_neD (ru64 hr) : OpR _ _ (rNeD K)) (pv 8) (pv 1) (nomark _)))) (fun _ _ _ _ _ => (pv 8))) pa_nil)))
      (pss_cons (ps_set (i := 3) sc_law_t2_witness.nd rfl (Or.inl rfl) (pe_callB (cr_sortE (a := Cell) (by decide) (ru64 hr)) (by rfl) Z.sorted (by decide +kernel) (pa_cons (pe_lc (own := [("_law_cell", 8)]) (g := gName 8) rfl sc_law_t2_witness.nd (pi_list (pe_cal C_law_t2_beside (hr.mono (by decide)) (pa_cons (pv 1) pa_nil))) (blkOk_by (N := n_law_t2_witness) (sc := defScope s_law_t2_witness) (by decide +kernel)) (fun _ _ _ _ _ => (pg_name (i := 8) sc_law_t2_witness.nd rfl (Or.inl rfl))) (fun _ _ _ _ _ => (pts_one (pt_cmp ((pc_din (ru1 hr)) (pv 8) (pv 2))))) (fun _ _ _ _ _ => (pv 8))) pa_nil)))
      (pss_cons (ps_asg (pe_tup (pa_cons pe_dnewT (pa_cons (pe_lst (pa_cons (pe_ix ix_list (pv 3) pe_int (fun _ _ => rfl)) pa_nil)) pa_nil))) (pg_tup rfl (pgs_cons (pg_name (i := 4) sc_law_t2_witness.nd rfl (Or.inr rfl)) (pgs_cons (pg_name (i := 5) sc_law_t2_witness.nd rfl (Or.inl rfl)) pgs_nil))))
      (pss_cons (ps_dput (ru1 hr) (pv 4) (pe_ix ix_list (pv 3) pe_int (fun _ _ => rfl)) pe_int rfl)
      (pss_cons (ps_for PassesOwn.never rfl (pi_range1 (by rfl) Z.range (pa_cons (pe_callB call_len_dT (by rfl) Z.len (by decide +kernel) (pa_cons (pv 2) pa_nil)) pa_nil)) (pg_name (i := 6) sc_law_t2_witness.nd rfl (Or.inl rfl)) (pss_cons (ps_set (i := 7) sc_law_t2_witness.nd rfl (Or.inl rfl) (pe_lst pa_nil))
      (pss_cons (ps_for PassesOwn.never rfl (pi_list (pv 5)) (pg_name (i := 8) sc_law_t2_witness.nd rfl (Or.inl rfl)) (pss_one (ps_for PassesOwn.never rfl (pi_list (pe_cal C_law_t2_beside (hr.mono (by decide)) (pa_cons (pv 8) pa_nil))) (pg_name (i := 9) sc_law_t2_witness.nd rfl (Or.inl rfl)) (pss_one (ps_if (PW.pt (pw_and (pt_cmp ((pc_din (ru1 hr)) (pv 9) (pv 2))) (pw_and1 (pt_cmp ((pc_dnotin (ru1 hr)) (pv 9) (pv 4)))))) (pss_cons (ps_dput (ru1 hr) (pv 4) (pv 9) (pe_op op_add (pv 6) pe_int) rfl)
      (pss_one (ps_expr (pe_bm PySem.F.plainAttrs_list PySem.F.slot_list_append PySem.F.type_list_append mt_append (pv 7) (pa_cons (pv 9) pa_nil))))) pss_nil)))))
      (pss_one (ps_set (i := 5) sc_law_t2_witness.nd rfl (Or.inl rfl) (pv 7))))))
      (pss_cons (ps_set (i := 10) sc_law_t2_witness.nd rfl (Or.inl rfl) pe_dnewT)
      (pss_cons (ps_for PassesOwn.never rfl (pi_list (pv 3)) (pg_name (i := 8) sc_law_t2_witness.nd rfl (Or.inl rfl)) (pss_cons (ps_set (i := 11) sc_law_t2_witness.nd rfl (Or.inr rfl) (pv 8))
      (pss_one (ps_for PassesOwn.never rfl (pi_range1 (by rfl) Z.range (pa_cons (pe_op op_add (pe_dget (ru1 hr) (pv 4) (pv 8) (fun _ _ => rfl)) pe_int) pa_nil)) (pg_name (i := 6) sc_law_t2_witness.nd rfl (Or.inl rfl)) (pss_cons (ps_dput (ru1 hr) (pv 10) (pv 11) pe_bl rfl)
      (pss_cons (ps_setLc (i := 12) (own := [("_law_one", 9)]) (g := gName 9)  rfl sc_law_t2_witness.nd rfl rfl (sw_true rfl rfl rfl (by decide +kernel)) (pi_list (pe_cal C_law_t2_beside (hr.mono (by decide)) (pa_cons (pv 11) pa_nil))) (blkOk_by (N := n_law_t2_witness) (sc := defScope s_law_t2_witness) (by decide +kernel)) (fun _ _ _ _ _ => (pg_name (i := 9) sc_law_t2_witness.nd rfl (Or.inl rfl))) (fun _ _ _ _ _ => (pts_one (pt_cmpR op_eq (pe_dget1 (ru1 hr) (pv 4) (pv 9) ⟨rfl, rfl, rfl, rfl⟩) (pe_op op_sub (pe_dget (ru1 hr) (pv 4) (pv 11) (fun _ _ => rfl)) pe_int) (nomark _)))) (fun _ _ _ _ _ => (pv 9)))
      (pss_one (ps_if (pt_cmpR (op_neD (ru64 hr)) (pv 12) (pe_lst pa_nil) (nomark _)) (pss_one (ps_set (i := 11) sc_law_t2_witness.nd rfl (Or.inr rfl) (pe_callB (cr_minE (a := Cell) (by decide) rfl (ru64 hr)) (by rfl) Z.min (by decide +kernel) (pa_cons (pv 12) pa_nil)))) pss_nil))))))))
      (pss_one (ps_ret (pe_callTy call_tuple_of (by rfl) Z.tuple (by decide +kernel) (pa_cons (pe_callB (cr_sortE (a := Cell) (by decide) (ru64 hr)) (by rfl) Z.sorted (by decide +kernel) (pa_cons (pe_callTy (call_list_dT rfl) (by rfl) Z.list (by decide +kernel) (pa_cons (pv 10) pa_nil)) pa_nil)) pa_nil))))))))))), ?_⟩
    have hrl : (rest b c).length ≤ 1000 := Nat.le_trans rest_len hlen
    -- rest, near
    refine q_asgW (ew_c1 (P1 := li (rest b c)) (ea_cons ((en_lcT (f := fun x => x) (p := fun x => !decide (x = c)) (ev_var rfl h1) (by omega) fun x u H' hx e hu => ⟨eb_test (ev_neE (ev_var rfl hu) (ev_var rfl (en_up e h2))), fun _ => ev_var rfl hu⟩).is (List.map_id' _)).li ea_nil) ⟨_, .inr rfl, hrl, rfl⟩) fun pr H1 nr e1 hr0 => ?_
    replace hr0 := ds_at hr0
    have hS : ∀ x, (dget (dall (rest b c)) x).isSome = true ↔ x ∈ rest b c := fun x => dall_mem
    refine q_asgN (en_sort ((en_lcL (f := fun x => x) (p := fun x => (dget (dall (rest b c)) x).isSome) (ew_c1 (P1 := en c) (ea_cons (ev_var rfl (en_up e1 h2)) ea_nil) ⟨_, rfl, rfl⟩).p (Nat.le_of_ble_eq_true rfl) fun x u H' hx e hu => ⟨eb_test (ev_inD (ev_var rfl hu) (ev_ds rfl (hr0.up e))), fun _ => ev_var rfl hu⟩).is (List.map_id' _)).li (.inl fun x _ => ⟨_, _, rfl⟩)) fun pn H2 n2 e2 hn => ?_
    have hnear : ∀ x, x ∈ srt ((nbs c).filter fun x => (dget (dall (rest b c)) x).isSome) ↔ x ∈ nbs c ∧ x ∈ rest b c := fun x => by rw [srt_mem, List.mem_filter, hS]
    have hnl : (srt ((nbs c).filter fun x => (dget (dall (rest b c)) x).isSome)).length ≤ 4 := by
      rw [srt_len]
      exact List.length_filter_le _ _
    have hnl0 : srt ((nbs c).filter fun x => (dget (dall (rest b c)) x).isSome) = nearL b c := by
      unfold nearL
      congr 1
      exact List.filter_congr fun x hx => by rw [Bool.eq_iff_iff, hS, decide_eq_true_iff, rest_near hx]
    rw [hnl0] at hn hnear hnl
    generalize hnr : nearL b c = nr' at hn hnear hnl
    obtain ⟨root, nrr, rfl⟩ : ∃ root r, nr' = root :: r := by
      cases nr' with
      | nil =>
        have := (hnear z0).mpr ⟨hz0, (rest_near hz0).mpr hz0b⟩
        cases this
      | cons a r => exact ⟨a, r, rfl⟩
    have hroot : root ∈ rest b c := ((hnear root).mp List.mem_cons_self).2
    have hr2 := hr0.up e2
    have hR : (dall (rest b c)).length ≤ 1000 := Nat.le_trans (dall_len _) hrl
    -- far, line
    refine q_asg2WW (P1 := ds ([] : List (Cell × Int))) (P2 := li [root]) ew_dict (en_lst (xs := [root]) (ea_cons (ev_ixL (ev_li rfl hn) ev_int (atI_nat (j := 0) rfl)) ea_nil)).w fun pf pl H3 nf nl hfl e3 hf hl => ?_
    replace hf := ds_at hf
    replace hl := li_at hl
    refine q_dput (c := root) (x := (0 : Int)) hf ev_int (ev_vr rfl) (ev_ixL (ev_li rfl (hn.up e3)) ev_int (atI_nat (j := 0) rfl)) (by decide) fun H4 e4 H5 b5 hf5 => ?_
    have nfH : H pf = none := (e1.tr e2).back nf
    have e25 : Ex H2 H5 := (e3.tr e4).but nf b5
    have e05 : Ex H H5 := (e1.tr e2).tr e25
    have hn5 := hn.up e25
    have hr5 := hr2.up e25
    have hprf : pr ≠ pf := hr2.ne_new nf
    have hpnf : pn ≠ pf := hn.ne_new nf
    -- the laps
    refine q_forR1 (n := ((dall (rest b c)).length : Int)) (ea_cons (ev_lenD (ev_ds rfl hr5)) ea_nil) (by omega) fun H6 e6 => ⟨fun lap s' H' => ∃ u6 u7 u8 u9 pl ln fr, s' = [some v1, some v2, some (.ref pr), some (.ref pn), some (.ref pf), some (.ref pl), u6, u7, u8, u9, none, none, none] ∧ Mv [pf] H6 H' ∧ Dc (β := Int) H' pf fr ∧ Ls H' pl ln ∧ pl ≠ pf ∧ BInvL (· ∈ rest b c) root lap ln fr,
      ⟨_, _, _, _, pl, [root], _, rfl, Mv.same, hf5.up e6, ((hl.up e4).but hfl.symm b5).up e6, hfl.symm, BInvL.start hroot⟩, fun lap s' H' hlap ⟨u6, u7, u8, u9, pl, ln, fr, es, mm, hfr, hln, hne, B⟩ => ?_, fun s' H' ⟨u6, u7, u8, u9, pl, ln, fr, es, mm, hfr, hln, hne, B⟩ => ?_⟩
    · subst es
      have hE : Ex H5 H' → True := fun _ => trivial
      have hr' : Dc H' pr (dall (rest b c)) := (hr5.up e6).mv (mem1 hprf) mm
      refine q_asgN (en_nil (α := Cell)) fun p7 H7 n7 e7 h7 => ?_
      have h7f : p7 ≠ pf := ((hfr.ne_new n7).symm)
      have hlnS : ∀ y, y ∈ ln → y ∈ rest b c := fun y hy => (B.key y _ (B.lns y hy)).1
      refine q_forA [pf, p7] (hln.up e7) (ev_vr rfl) (mem2 hne (hln.ne_new n7)) fun H8 e8 => ⟨fun i s2 H2' => ∃ u8 u9 fr2 lt, s2 = [some v1, some v2, some (.ref pr), some (.ref pn), some (.ref pf), some (.ref pl), some (.int (lap : Int)), some (.ref p7), u8, u9, none, none, none] ∧ Mv [pf, p7] H8 H2' ∧ Dc (β := Int) H2' pf fr2 ∧ Ls H2' p7 lt ∧ LInv (· ∈ rest b c) fr lap ln ((ln.take i).flatMap nbs) fr2 lt,
        ⟨_, _, fr, [], rfl, Mv.same, hfr.up (e7.tr e8), h7.up e8, LInv.start B.nd⟩, fun i s2 H2' ⟨_, _, _, _, _, mm, _⟩ => mm, fun i y v s2 H2' hy hv ⟨u8, u9, fr2, lt, es, mm2, hfr2, hlt, I⟩ => ?_, fun s2 H2' ⟨u8, u9, fr2, lt, es, mm2, hfr2, hlt, I⟩ => ?_⟩
      · subst es
        refine s_forN [pf, p7] (xs := nbs y) (ew_c1 (P1 := en y) (ea_cons (ev_var rfl hv) ea_nil) ⟨y, rfl, rfl⟩).n (nn2 hfr2.nn hlt.nn) fun H9 e9 => ⟨fun j s3 H3' => ∃ u9 fr3 lt3, s3 = [some v1, some v2, some (.ref pr), some (.ref pn), some (.ref pf), some (.ref pl), some (.int (lap : Int)), some (.ref p7), some v, u9, none, none, none] ∧ Mv [pf, p7] H9 H3' ∧ Dc (β := Int) H3' pf fr3 ∧ Ls H3' p7 lt3 ∧ LInv (· ∈ rest b c) fr lap ln ((ln.take i).flatMap nbs ++ (nbs y).take j) fr3 lt3,
          ⟨_, fr2, lt, rfl, Mv.same, hfr2.up e9, hlt.up e9, by simpa using I⟩, fun j s3 H3' ⟨_, _, _, _, mm, _⟩ => mm, fun j z u s3 H3' hz hu ⟨u9, fr3, lt3, es, mm3, hfr3, hlt3, I3⟩ => ?_, fun s3 H3' ⟨u9, fr3, lt3, es, mm3, hfr3, hlt3, I3⟩ => ?_⟩
        · subst es
          have hfl3 : fr3.length ≤ (rest b c).length := by
            have := nodup_len (xs := fr3.map (·.1)) (ys := rest b c) I3.nd fun x hx => by
              obtain ⟨k, hk⟩ := Option.isSome_iff_exists.mp (dget_some.mpr hx)
              rcases I3.new x k hk with h | ⟨_, h⟩
              · exact (B.key x k h).1
              · exact (I3.lts x h).2.2.1
            rwa [List.length_map] at this
          have hltl : lt3.length ≤ fr3.length := by
            have := I3.len
            omega
          have hr3 : Dc H3' pr (dall (rest b c)) := (((hr'.up (e7.tr e8)).mv (mem2 hprf (hr'.ne_new n7)) mm2).up e9).mv (mem2 hprf (hr'.ne_new n7)) mm3
          refine s_ifN (b := (dget (dall (rest b c)) z).isSome && !(dget fr3 z).isSome) (eb_and (eb_test (ev_inD (ev_var rfl hu) (ev_ds rfl hr3))) fun _ => eb_test (ev_niD (ev_var rfl hu) (ev_ds rfl hfr3))) (fun hb H10 e10 => ?_) fun hb H10 e10 => ?_
          · rw [Bool.and_eq_true] at hb
            have hzS := (hS z).mp hb.1
            have hzn : dget fr3 z = none := by
              cases hq : dget fr3 z with
              | none => rfl
              | some k =>
                rw [hq] at hb
                cases hb.2
            refine q_dput (c := z) (x := (lap : Int) + 1) (hfr3.up e10) (ev_I (i := (lap : Int)) (ev_var rfl rfl) ev_int) (ev_vr rfl) (ev_var rfl (en_up e10 hu)) (by omega) fun H11 e11 H12 b12 hfr12 => ?_
            refine s_app' (x := z) ((hlt3.up (e10.tr e11)).but h7f b12) (ev_vr rfl) (ev_var rfl (Enc.mono b12.tu (en_up (e10.tr e11) hu))) (by omega) fun H13 e13 H14 b14 hlt14 => ?_
            refine ⟨_, _, _, rfl, ((((mm3.ex e10).ex e11).but b12 (.inl List.mem_cons_self)).ex e13).but b14 (.inl (List.mem_cons_of_mem _ List.mem_cons_self)), (hfr12.up e13).but h7f.symm b14, hlt14, ?_⟩
            rw [take_snoc hz, ← List.append_assoc]
            exact I3.add (List.mem_of_getElem? hy) (List.mem_of_getElem? hz) hzS hzn
          · refine ⟨_, fr3, lt3, rfl, mm3.ex e10, hfr3.up e10, hlt3.up e10, ?_⟩
            rw [take_snoc hz, ← List.append_assoc]
            refine I3.skip ?_
            by_cases hzS : z ∈ rest b c
            · right
              rw [(hS z).mpr hzS] at hb
              cases hq : (dget fr3 z).isSome with
              | true => rfl
              | false =>
                rw [hq] at hb
                cases hb
            · exact .inl hzS
        · subst es
          refine ⟨_, _, fr3, lt3, rfl, (mm2.ex e9).tr mm3, hfr3, hlt3, ?_⟩
          rw [show (nbs y).length = 4 from rfl, show (nbs y).take 4 = nbs y from rfl] at I3
          rw [take_snoc hy, List.flatMap_append, List.flatMap_singleton]
          exact I3
      · subst es
        refine s_asg (P := va (.ref p7)) (ev_vr rfl) fun v H9 e9 hv => ?_
        obtain rfl : v = .ref p7 := hv
        rw [List.take_length] at I
        refine ⟨_, _, _, _, p7, lt, fr2, rfl, ((mm.ex (e7.tr e8)).trw mm2 fun a ha => ?_).ex e9, hfr2.up e9, hlt.up e9, h7f, B.next I⟩
        rcases List.mem_cons.mp ha with z | z
        · exact .inl (by rw [z]; exact List.mem_cons_self)
        · rw [List.mem_singleton.mp z]
          exact .inr (mm.back (mem1 h7f) n7)
    · subst es
      rw [Int.toNat_natCast] at B
      have hall : ∀ x, x ∈ rest b c → ∃ v, dget fr x = some v := B.all (by
        have h1 := nodup_len (xs := fr.map (·.1)) (ys := (dall (rest b c)).map (·.1)) B.nd fun x hx => by
          obtain ⟨k, hk⟩ := Option.isSome_iff_exists.mp (dget_some.mpr hx)
          exact dall_keys.mpr (B.key x k hk).1
        rwa [List.length_map, List.length_map] at h1) fun x hx => hhang.2 root hroot x hx
      have hvle : ∀ x v, dget fr x = some v → v ≤ 1000 := fun x v h => by
        have := (B.key x v h).2.2.1
        omega
      have hF : FarOf (· ∈ rest b c) root (fun x => dget fr x) := B.far hall
      have hn' : Ls H' pn (root :: nrr) := (hn5.up e6).mv (mem1 hpnf) mm
      have e0' : Ex H H' := (e05.tr e6).mv mm (no1 nfH)
      refine q_asgW (ew_dict (β := Bool)) fun pw H7 nw e7 hw => ?_
      replace hw := ds_at hw
      have hwf : pf ≠ pw := hfr.ne_new nw
      have hwn : pn ≠ pw := hn'.ne_new nw
      refine q_forA [pw] (hn'.up e7) (ev_vr rfl) (mem1 hwn) fun H8 e8 => ⟨fun i s2 H2' => ∃ u6 u8 u9 u11 u12 W, s2 = [some v1, some v2, some (.ref pr), some (.ref pn), some (.ref pf), some (.ref pl), u6, u7, u8, u9, some (.ref pw), u11, u12] ∧ Mv [pw] H8 H2' ∧ Dc (β := Bool) H2' pw W ∧ WI (· ∈ rest b c) root root W ∧ (∀ x, x ∈ (root :: nrr).take i → (dget W x).isSome = true) ∧ (∀ x, (dget W x).isSome = true ↔ x ∈ witL (fun x => dget fr x) ((root :: nrr).take i)),
        ⟨_, _, _, _, _, [], rfl, Mv.same, hw.up e8, ⟨(fun x hx => by cases hx), (fun x hx => by cases hx), List.nodup_nil⟩, (fun x hx => by simp at hx), (fun x => by simp [witL, dget_nil])⟩, fun i s2 H2' ⟨_, _, _, _, _, _, _, mm, _⟩ => mm, fun i cell v s2 H2' hcell hv ⟨u6, u8, u9, u11, u12, W, es, mm2, hW, I, hhas, hex⟩ => ?_, fun s2 H2' ⟨u6, u8, u9, u11, u12, W, es, mm2, hW, I, hhas, hex⟩ => ?_⟩
      · subst es
        have hcellS : cell ∈ rest b c := ((hnear cell).mp (List.mem_of_getElem? hcell)).2
        obtain ⟨v0, hv0⟩ := hall cell hcellS
        obtain ⟨_, v00, _, _, _⟩ := B.key cell v0 hv0
        have v01 := hvle cell v0 hv0
        refine q_asg (P := en cell) (ev_var rfl hv) fun vh H9 e9 hvh => ?_
        have hf9 : Dc (β := Int) H9 pf fr := ((hfr.up (e7.tr e8)).mv (mem1 hwf) mm2).up e9
        refine s_forR1 (n := v0 + 1) (ea_cons (ev_I (ev_dget (ev_ds rfl hf9) (ev_var rfl (en_up e9 hv)) hv0) ev_int) ea_nil) (by omega) fun H10 e10 => ⟨fun lap s3 H3' => ∃ u6 vh u12 here W3, s3 = [some v1, some v2, some (.ref pr), some (.ref pn), some (.ref pf), some (.ref pl), u6, u7, some v, u9, some (.ref pw), some vh, u12] ∧ Mv [pw] H10 H3' ∧ Dc (β := Bool) H3' pw W3 ∧ En H3' vh here ∧ WI (· ∈ rest b c) root here W3 ∧ (∀ x, (dget W x).isSome = true → (dget W3 x).isSome = true) ∧
            ((lap : Int) ≤ v0 → dget fr here = some (v0 - lap)) ∧ ((lap : Int) = v0 + 1 → here = root ∧ (dget W3 root).isSome = true) ∧ (1 ≤ lap → (dget W3 cell).isSome = true) ∧ (lap = 0 → here = cell) ∧ ((lap : Int) ≤ v0 → ∀ x, ((dget W3 x).isSome = true ∨ x ∈ pth (fun x => dget fr x) (v0 - lap).toNat here) ↔ ((dget W x).isSome = true ∨ x ∈ wayv (fun x => dget fr x) cell)) ∧ ((lap : Int) = v0 + 1 → ∀ x, (dget W3 x).isSome = true ↔ ((dget W x).isSome = true ∨ x ∈ wayv (fun x => dget fr x) cell)),
          ⟨_, _, _, cell, W, rfl, Mv.same, (hW.up e9).up e10, en_up e10 hvh, I.begin, fun x h => h, fun _ => by simpa using hv0, fun h => by omega, fun h => by omega, fun _ => rfl, (fun _ x => by
            unfold wayv
            show _ ↔ _ ∨ x ∈ pth _ ((dget fr cell).getD 0).toNat cell
            rw [hv0]
            show _ ∨ x ∈ pth _ (v0 - (0 : Nat)).toNat cell ↔ _ ∨ x ∈ pth _ v0.toNat cell
            rw [show v0 - ((0 : Nat) : Int) = v0 by omega]), fun h => by omega⟩, fun lap s3 H3' hlap ⟨u6, vh, u12, here, W3, es, mm3, hW3, hvh, I3, hkeep, hfar, hend, hin, hst, hex3, hex4⟩ => ?_, fun s3 H3' ⟨u6, vh, u12, here, W3, es, mm3, hW3, hvh, I3, hkeep, hfar, hend, hin, hst, hex3, hex4⟩ => ?_⟩
        · subst es
          have hfh := hfar (by omega)
          have hhS : here ∈ rest b c := (B.key here _ hfh).1
          have hW3l : W3.length ≤ 1000 := by
            have := nodup_len (xs := W3.map (·.1)) (ys := rest b c) I3.nd fun x hx => I3.sub x (dget_some.mpr hx)
            rw [List.length_map] at this
            omega
          refine q_dput (c := here) (x := true) hW3 ev_bl (ev_vr rfl) (ev_var rfl hvh) (by omega) fun H11 e11 H12 b12 hW12 => ?_
          have mm12 : Mv [pw] H10 H12 := (mm3.ex e11).but b12 (.inl List.mem_cons_self)
          have hvh12 : En H12 vh here := Enc.mono b12.tu (en_up e11 hvh)
          have hf12 : Dc (β := Int) H12 pf fr := (hf9.up e10).mv (mem1 hwf) mm12
          have I12 := I3.stay hhS
          refine q_asgN ((en_lcL (f := fun x => x) (p := fun x => decide (dget fr x = some (v0 - lap - 1))) (ew_c1 (P1 := en here) (ea_cons (ev_var rfl hvh12) ea_nil) ⟨_, rfl, rfl⟩).p (Nat.le_of_ble_eq_true rfl) fun x u H'' hx e'' hu => ⟨eb_test (ev_eqO (ev_getO (ev_ds rfl (hf12.up e'')) (ev_var rfl hu)) (ev_I (ev_dget (ev_ds rfl (hf12.up e'')) (ev_var rfl (en_up e'' hvh12)) hfh) ev_int)), fun _ => ev_var rfl hu⟩).is (List.map_id' _)) fun p12 H13 n13 e13 h13 => ?_
          have hnx : ∀ x, x ∈ (nbs here).filter (fun x => decide (dget fr x = some (v0 - lap - 1))) ↔ x ∈ nbs here ∧ dget fr x = some (v0 - lap - 1) := fun x => by rw [List.mem_filter, decide_eq_true_iff]
          have hcnd : (nbs here).filter (fun x => decide (dget fr x = some (v0 - lap - 1))) = cand (fun x => dget fr x) here := by
            unfold cand
            show _ = (nbs here).filter fun y => decide (dget fr y = some ((dget fr here).getD 0 - 1))
            rw [hfh]
            rfl
          generalize (nbs here).filter (fun x => decide (dget fr x = some (v0 - lap - 1))) = nx at h13 hnx hcnd
          have mm13 := mm12.ex e13
          refine s_ifN (eb_test (ev_neL (ev_li rfl h13) en_nil.li)) (fun hb H14 e14 => ?_) fun hb H14 e14 => ?_
          · have hne' : nx ≠ [] := by simpa using hb
            refine s_asg (ev_minX (ev_li rfl (h13.up e14)) hne') fun v15 H15 e15 ⟨there, ⟨ht, y0, r0, e0, htl⟩, hv15⟩ => ?_
            have hth : there = nxt (fun x => dget fr x) here := by rw [htl, nxt_cons (hcnd.symm.trans e0)]
            obtain ⟨ht1, ht2⟩ := (hnx there).mp ht
            have h0 := (B.key there _ ht2).2.1
            refine ⟨_, _, _, there, _, rfl, (mm13.ex e14).ex e15, hW12.up ((e13.tr e14).tr e15), hv15, I12.go ht1, fun x hx => put_in.mpr (.inr (hkeep x hx)), fun _ => ?_, fun h => by omega, fun _ => ?_, fun h => by omega, fun hle => ?_, fun h => by omega⟩
            · rw [ht2]
              congr 1
              omega
            · by_cases hl0 : lap = 0
              · exact put_in.mpr (.inl (hst hl0).symm)
              · exact put_in.mpr (.inr (hin (by omega)))
            · rw [hth]
              refine pth_step (A := fun x => (dget W3 x).isSome = true) (A' := fun x => (dget (dput W3 here true) x).isSome = true) (W := fun x => (dget W x).isSome = true) ?_ fun x => put_in
              have := hex3 (by omega)
              rwa [show (v0 - (lap : Int)).toNat = (v0 - ((lap + 1 : Nat) : Int)).toNat + 1 by omega] at this
          · have hnil : nx = [] := by simpa using hb
            have hz : v0 - lap = 0 := Classical.byContradiction fun z => by
              obtain ⟨y, hy1, hy2⟩ := B.par here _ hfh (by omega)
              have := (hnx y).mpr ⟨hy1, hy2⟩
              rw [hnil] at this
              cases this
            have hhr : here = root := by
              refine (B.key here _ hfh).2.2.2.1.mp hz
            refine ⟨_, _, _, here, _, rfl, mm13.ex e14, hW12.up (e13.tr e14), en_up (e13.tr e14) hvh12, I12, fun x hx => put_in.mpr (.inr (hkeep x hx)), fun h => by omega, fun _ => ⟨hhr, put_in.mpr (.inl hhr.symm)⟩, fun _ => ?_, (fun h => by omega), (fun h => by omega), fun _ => ?_⟩
            · by_cases hl0 : lap = 0
              · exact put_in.mpr (.inl (hst hl0).symm)
              · exact put_in.mpr (.inr (hin (by omega)))
            · refine pth_end (A := fun x => (dget W3 x).isSome = true) (A' := fun x => (dget (dput W3 here true) x).isSome = true) (W := fun x => (dget W x).isSome = true) ?_ fun x => put_in
              have := hex3 (by omega)
              rwa [show (v0 - (lap : Int)).toNat = 0 by omega] at this
        · subst es
          have hnn : ((v0 + 1).toNat : Int) = v0 + 1 := by omega
          obtain ⟨hhr, hrt⟩ := hend hnn
          subst hhr
          refine ⟨_, _, _, _, _, W3, rfl, ((mm2.ex e9).ex e10).tr mm3, hW3, I3, fun x hx => ?_, fun x => ?_⟩
          · rw [take_snoc hcell] at hx
            rcases List.mem_append.mp hx with h | h
            · exact hkeep x (hhas x h)
            · rw [List.mem_singleton.mp h]
              exact hin (by omega)
          · rw [witL_snoc hcell, ← hex x]
            exact hex4 hnn x
      · subst es
        rw [List.take_length] at hhas hex
        have mmz : Ex H H2' := ((e0'.tr e7).tr e8).mv mm2 (no1 (e0'.back nw))
        refine s_ret (ev_tupleL rfl (en_sort (en_keys rfl (ev_ds rfl hW)).li (.inl fun x _ => ⟨_, _, rfl⟩)).li) fun v H9 e9 hv => q v H9 (mmz.tr e9) ⟨_, srt_wit (F := fun x => dget fr x) (by rw [hnr]; exact hF) I.nd (fun x => by rw [hnr]; exact dget_some.symm.trans (hex x)), hv⟩
def spPapersX : Sp := S2W fun P1 P2 Pz => ∃ (b : List Cell) (pl : List (Cell × Cell)), P1 = en b ∧ P2 = li pl ∧ b.length ≤ 1000 ∧ pl.length ≤ 1000 ∧ Hang b ∧ okPlan b pl = true ∧ Pz = liX (PapX b pl)
theorem ok_law_papersX (T : Txt K mg "_law_t2_papers" "_law_t2_papers" s_law_t2_papers ["_law_body", "_law_plan"]) (Z : Blt mg) (C_law_t2_supports : Cal P w K mg base 1 "_law_t2_supports" ["_law_squares", "_law_start", "_law_end"] spSupports)
    (C_law_t2_squares : Cal P w K mg base 1 "_law_t2_squares" ["_law_body"] spSquares) (C_law_t2_witness : Cal P w K mg base 2 "_law_t2_witness" ["_law_body", "_law_start"] spWitnessX) (C_law_t2_done : Cal P w K mg base 1 "_law_t2_done" ["_law_body", "_law_start", "_law_end"] spDone) : Cal P w K mg base 3 "_law_t2_papers" ["_law_body", "_law_plan"] spPapersX :=
  T.cal sc_law_t2_papers S2W.len fun f cdv A outer s H vs Q E hr h => by
    obtain ⟨v1, v2, P1, P2, Pz, rfl, ⟨b, pl, rfl, rfl, hlen, hlen2, hhang, hok, rfl⟩, hb, ⟨a, rfl, ha⟩, q⟩ := h
    refine ⟨_, (pss_cons (ps_par (i := 2) (j := 3) rfl sc_law_t2_papers.nd rfl rfl (by decide) rfl rfl (pa_cons (pe_lst pa_nil) (pa_cons (pv 0) pa_nil)) (by rfl))
      (pss_cons (ps_for PassesOwn.never rfl (pi_list (pv 1)) (pg_tup rfl (pgs_cons (pg_name (i := 4) sc_law_t2_papers.nd rfl (Or.inl rfl)) (pgs_cons (pg_name (i := 5) sc_law_t2_papers.nd rfl (Or.inl rfl)) pgs_nil))) (pss_cons (ps_set (i := 6) sc_law_t2_papers.nd rfl (Or.inl rfl) (pe_ix ix_list (pe_cal C_law_t2_supports (hr.mono (by decide)) (pa_cons (pe_cal C_law_t2_squares (hr.mono (by decide)) (pa_cons (pv 3) pa_nil)) (pa_cons (pv 4) (pa_cons (pv 5) pa_nil)))) pe_int (fun _ _ => rfl)))
      (pss_cons (ps_expr (pe_bm PySem.F.plainAttrs_list PySem.F.slot_list_append PySem.F.type_list_append mt_append (pv 2) (pa_cons (pe_tup (pa_cons (pv 4) (pa_cons (pv 5) (pa_cons (pv 6) (pa_cons (pe_cal C_law_t2_witness (hr.mono (by decide)) (pa_cons (pv 3) (pa_cons (pv 4) pa_nil))) pa_nil))))) pa_nil)))
      (pss_one (ps_set (i := 3) sc_law_t2_papers.nd rfl (Or.inl rfl) (pe_cal C_law_t2_done (hr.mono (by decide)) (pa_cons (pv 3) (pa_cons (pv 4) (pa_cons (pv 5) pa_nil)))))))))
      (pss_one (ps_ret (pv 2))))), ?_⟩
    refine q_parWP (en_nil (α := Paper)).w (P2 := en b) (ev_var rfl hb) fun pf vh H1 nf e1 hf hvh => ?_
    replace hf := li_at hf
    refine q_forA [pf] (ha.up e1) (ev_vr rfl) (mem1 (ha.ne_new nf)) fun H2 e2 => ⟨fun i s' H' => ∃ vh u4 u5 u6 ps, s' = [some v1, some (.ref a), some (.ref pf), some vh, u4, u5, u6] ∧ Mv [pf] H2 H' ∧ En H' vh (endB b (pl.take i)) ∧ Ls H' pf ps ∧ PapX b (pl.take i) ps ∧ okPlan b (pl.take i) = true,
      ⟨vh, _, _, _, [], rfl, Mv.same, en_up e2 hvh, hf.up e2, ⟨rfl, fun i m p hm => by simp at hm⟩, rfl⟩, fun i s' H' ⟨_, _, _, _, _, _, mm, _⟩ => mm, fun i m v s' H' hm hv ⟨vh, u4, u5, u6, ps, es, mm, hvh, hps, hpap, hokp⟩ => ?_, fun s' H' ⟨vh, u4, u5, u6, ps, es, mm, hvh, hps, hpap, hokp⟩ => ?_⟩
    · subst es
      refine g_pair hv fun w1 w2 k1 k2 => ?_
      have hokn : okPlan b (pl.take (i + 1)) = true := by
        have h1 : ∀ (pl r : List (Cell × Cell)) (b : List Cell), okPlan b (pl ++ r) = true → okPlan b pl = true := fun pl r => by
          induction r using snocInd with
          | h0 => intro b h; rwa [List.append_nil] at h
          | h1 r x ih =>
            intro b h
            rw [← List.append_assoc, okPlan_snoc, Bool.and_eq_true] at h
            exact ih b h.1
        refine h1 (pl.take (i + 1)) (pl.drop (i + 1)) b ?_
        rw [List.take_append_drop]
        exact hok
      have hok1 : okMove (endB b (pl.take i)) m.1 m.2 = true := by
        rw [take_snoc hm, okPlan_snoc, Bool.and_eq_true] at hokn
        exact hokn.2
      have hel : (endB b (pl.take i)).length ≤ 1000 := Nat.le_trans (endB_len hokp) hlen
      obtain ⟨hsn, hfree⟩ := okMove_iff.mp hok1
      obtain ⟨sup, r, hsup⟩ := ne_cons hsn
      have hargs : ∀ {s : TSt} {H3}, s[3]? = some (some vh) → s[4]? = some (some w1) → s[5]? = some (some w2) → Ex H' H3 → True := fun _ _ _ _ => trivial
      refine q_asg (P := en sup) (ev_ixL (xs := sup :: r) (i := 0) ?_ ev_int (atI_nat (j := 0) rfl)) fun v6 H3 e3 hv6 => ?_
      · refine (ew_c3 (P1 := ds (dall (endB b (pl.take i)))) (P2 := en m.1) (P3 := en m.2) (ea_cons (ew_c1 (P1 := en (endB b (pl.take i))) (ea_cons (ev_var rfl hvh) ea_nil) ⟨_, .inl rfl, hel, rfl⟩).p (ea_cons (ev_var rfl k1) (ea_cons (ev_var rfl k2) ea_nil))) ⟨_, _, _, rfl, rfl, rfl, ?_⟩).p
        rw [dall_in, hsup]
      · have hpsl : ps.length ≤ 1000 := by
          rw [hpap.1]
          exact Nat.le_trans (List.length_take_le' i pl) hlen2
        refine q_appX (hps.up e3) (ev_vr rfl) (ev_paperX (ev_var rfl (en_up e3 k1)) (ev_var rfl (en_up e3 k2)) (ev_var rfl hv6) (ev_c2 (P1 := en (endB b (pl.take i))) (P2 := en m.1) (ea_cons (ev_var rfl (en_up e3 hvh)) (ea_cons (ev_var rfl (en_up e3 k1)) ea_nil)) ⟨_, _, rfl, rfl, hel, hfree, near_ex (endB_hang hhang hokp) (okMove_in hok1).1 hfree, rfl⟩)) (by omega) fun p H4 hp e4 H5 b5 hps5 => ?_
        refine s_asg (P := en (done (endB b (pl.take i)) m.1 m.2)) (ev_c3 (ea_cons (ev_var rfl (Enc.mono b5.tu (en_up (e3.tr e4) hvh))) (ea_cons (ev_var rfl (Enc.mono b5.tu (en_up (e3.tr e4) k1))) (ea_cons (ev_var rfl (Enc.mono b5.tu (en_up (e3.tr e4) k2))) ea_nil))) ⟨_, _, _, rfl, rfl, rfl, hel, rfl⟩) fun v6 H6 e6 hv6 => ?_
        refine ⟨_, _, _, _, ps ++ [p], rfl, (((mm.ex e3).ex e4).but b5 (.inl List.mem_cons_self)).ex e6, ?_, hps5.up e6, ?_, hokn⟩
        · rw [take_snoc hm, endB_snoc]
          exact hv6
        · rw [take_snoc hm]
          exact hpap.snoc ⟨hp.1, hp.2.1, ⟨r, by rw [hp.2.2.1]; exact hsup⟩, hp.2.2.2⟩
    · subst es
      rw [List.take_length] at hpap
      have hE : Ex H H' := (e1.tr e2).mv mm (no1 nf)
      refine s_ret (P := va (.ref pf)) (ev_vr rfl) fun v H9 e9 hv => ?_
      obtain rfl : v = .ref pf := hv
      exact q pf H9 nf (hps.up e9).nn (hE.tr e9) ⟨ps, hpap, pf, rfl, hps.up e9⟩
end
end TB
set_option Elab.async false
set_option linter.all false
set_option maxRecDepth 100000
set_option maxHeartbeats 4000000
/-! D81: errors of one field; neighbours_of, distances_from, witness_of. -/
namespace TB
open PySem PySem.Spec PyProof.Rows L2
theorem raw_seqL {a u : TS} {D : Ends} {s : TSt} {H : Hp} (h : a { D with nx := u D } s H) : tSeq a u D s H := h
theorem raw_callS {sp : Sp} {E : L2.St → XK} {t : TA} {s : TSt} {H : Hp} {Q : VK} (h : t s H fun vs H1 => sp vs H1 Q (E s)) : tCallS sp E t s H Q := h
section
variable {P : Program} {w : World} {K : PySem.W.Frag} {mg : Str → Option Value} {base : Heap} {C CT CB : Addr}
/-! errors of one field -/
def spE1Init (C : Addr) (f : Str) : Sp := fun vs H Q _ => ∃ a u1, vs = [.ref a, u1] ∧ H a = some (exo a C none) ∧ ∀ dx, H dx = none → dx ≠ a → Q .non (upd (upd H dx (exd dx [(f, u1)])) a (exo a C (some dx)))
structure E1M (P : Program) (w : World) (K : PySem.W.Frag) (mg : Str → Option Value) (base : Heap) (C : Addr) (x f : Str) : Prop where
  ex : ∃ fI fd, PySem.W.findIn K (.ref C) "__init__" = some (some (.ref fI)) ∧ PySem.W.typeIn K (.ref fI) = some (.type "function") ∧ FnOk P w K mg base CX0 1 fI fd ["self", f] (spE1Init C f) ∧ Binds K fd ["self", f] []
  ox : OexC K C
  gC : mg x = some (.ref C)
  xf : XfC K C
  n1 : PySem.W.findIn K (.ref C) f = some none
  te : PySem.W.exmOne K (.ref C) (.ref C) = some true
theorem E1M.n_cell {x : Str} (M : E1M P w K mg base C x "cell") : PySem.W.findIn K (.ref C) "cell" = some none := M.n1
theorem E1M.n_cells {x : Str} (M : E1M P w K mg base C x "cells") : PySem.W.findIn K (.ref C) "cells" = some none := M.n1
abbrev s_NotThere___init : Stmt := inClass (topS 4) 0
abbrev n_NotThere___init : List Str := ["self", "cell"]
theorem sc_NotThere___init : FnScope n_NotThere___init ["self", "cell"] (defScope s_NotThere___init) := ⟨rfl, rfl, rfl, by decide +kernel, rfl, by decide +kernel, by decide +kernel⟩
abbrev s_BadBody___init : Stmt := inClass (topS 3) 0
abbrev n_BadBody___init : List Str := ["self", "cells"]
theorem sc_BadBody___init : FnScope n_BadBody___init ["self", "cells"] (defScope s_BadBody___init) := ⟨rfl, rfl, rfl, by decide +kernel, rfl, by decide +kernel, by decide +kernel⟩
theorem ok_ntinit {f : Addr} {fd : FuncData} (F : Fun K "__init__" "NotThere.__init__" s_NotThere___init f fd) (T : OexC K C) (n1 : PySem.W.findIn K (.ref C) "cell" = some none) : FnOk P w K mg base CX0 1 f fd ["self", "cell"] (spE1Init C "cell") :=
  F.ok sc_NotThere___init (fun vs H Q E ⟨a, u1, e, _⟩ => by subst e; rfl) fun cdv A outer s H vs Q E hr h => by
    obtain ⟨a, u1, rfl, h0, q⟩ := h
    refine ⟨_, (pss_one (ps_ost (pv 0) (pv 1))), ?_⟩
    exact ⟨u1, rfl, .ref a, rfl, a, C, rfl, T, n1, .inl ⟨h0, fun dx ndx nda => q dx ndx nda⟩⟩
theorem ok_bbinit {f : Addr} {fd : FuncData} (F : Fun K "__init__" "BadBody.__init__" s_BadBody___init f fd) (T : OexC K C) (n1 : PySem.W.findIn K (.ref C) "cells" = some none) : FnOk P w K mg base CX0 1 f fd ["self", "cells"] (spE1Init C "cells") :=
  F.ok sc_BadBody___init (fun vs H Q E ⟨a, u1, e, _⟩ => by subst e; rfl) fun cdv A outer s H vs Q E hr h => by
    obtain ⟨a, u1, rfl, h0, q⟩ := h
    refine ⟨_, (pss_one (ps_ost (pv 0) (pv 1))), ?_⟩
    exact ⟨u1, rfl, .ref a, rfl, a, C, rfl, T, n1, .inl ⟨h0, fun dx ndx nda => q dx ndx nda⟩⟩
theorem pmk_e1 {X : Cx} {x f : Str} {e : Expr} {es : List Expr} {t : TA} {p pos : Pos} (M : E1M X.prog X.w X.K X.mg X.base C x f) (hr : Room 2 X.A) (ha : PA X (e :: es) t) (hg : Gl X x := by rfl)
    (hdb : (x == ("__debug__" : Str)) = false := by decide) (he : starEach (e :: es) X.env = (false, eval e X.env) :: starEach es X.env := by rfl) (hpl : (backTo pos (starEach es X.env)).any (·.1) = false := by rfl) :
    PMk X (.Call (.Name x p) (e :: es) [] pos) (tMkO C (spE1Init C f) [] t) := by
  obtain ⟨fI, fd, iC, tI, F1, b⟩ := M.ex
  exact pmk_oex M.ox iC tI F1 hr b .nil passZ hg M.gC ha hdb he hpl
theorem e1_raise {s : TSt} {H : Hp} {v : V} {i : Nat} {f : Str} {E : Value → Option Addr → Hp → Prop} (hv : s[i]? = some (some v)) (k : ∀ d H', Ex H H' → H' d = some (.xd [(f, v)]) → E (.ref CB) (some d) H') :
    tMkO CB (spE1Init CB f) [] (tCons (tVar i) tNil) s H E := by
  refine raw_cons ⟨v, hv, ⟨Nat.le_of_ble_eq_true rfl, fun a na => ⟨a, v, rfl, upd_same, fun dx ndx nda => ⟨rfl, dx, [(f, v)], upd_same, ?_, ?_, ?_⟩⟩⟩⟩
  · rw [upd_ne nda]
    exact upd_same
  · rw [upd_ne nda] at ndx
    exact ndx
  · rw [upd_ne nda] at ndx
    refine k dx _ (fun b o hbo => ?_) upd_same
    have n1 : b ≠ a := fun z => by rw [z, na] at hbo; cases hbo
    have n2 : b ≠ dx := fun z => by rw [z, ndx] at hbo; cases hbo
    rw [upd_ne n2, del_ne n1, upd_ne n1, upd_ne n2, upd_ne n1]
    exact hbo
/-- {c: x} -/
theorem ew_dispT {s : TSt} {H : Hp} {tk tv : TE} {β : Type} [DecidableEq β] [Enc β] {c : Cell} {x : β} (hk : EvP tk s H (en c)) (hv : EvP tv s H (en x)) : EvW (tDispT tk tv) s H (ds [(c, x)]) := fun H1 e Q q p hp =>
  hk _ (e.tr (Ex.new hp)) _ fun u H2 e2 hu => hv _ ((e.tr (Ex.new hp)).tr e2) _ fun z H3 e3 hz => by
    obtain ⟨b, rfl, hb⟩ := cell_at (en_up e3 hu)
    have h3 : H3 p = some (.dT []) := e3 _ _ (e2 _ _ upd_same)
    refine ⟨h3, b, ck c, rfl, hb, q p _ hp (by rw [upd_same]; exact fun z => by cases z) ((((Ex.new hp).tr e2).tr e3).mut hp) ⟨p, rfl, [(ck c, z)], upd_same, .cons ⟨rfl, Enc.mono (Tu.mutT h3) hz⟩ .nil⟩⟩
abbrev s_neighbours_of : Stmt := topS 15
abbrev n_neighbours_of : List Str := ["body", "cell", "one"]
theorem sc_neighbours_of : FnScope n_neighbours_of ["body", "cell"] (defScope s_neighbours_of) := ⟨rfl, rfl, rfl, by decide +kernel, rfl, by decide +kernel, by decide +kernel⟩
def spNeigh : Sp := S2 fun P1 P2 Pz => ∃ (b : List Cell) (c : Cell), P1 = en b ∧ P2 = en c ∧ Pz = en (nearL b c)
theorem ok_neighbours_of (T : Txt K mg "neighbours_of" "neighbours_of" s_neighbours_of ["body", "cell"]) (Z : Blt mg) (C_beside : Cal P w K mg base 4 "beside" ["cell"] spBeside) : Cal P w K mg base 5 "neighbours_of" ["body", "cell"] spNeigh :=
  T.cal sc_neighbours_of S2.len fun f cdv A outer s H vs Q E hr h => by
    obtain ⟨v1, v2, P1, P2, Pz, rfl, ⟨b, c, rfl, rfl, rfl⟩, h1, h2, q⟩ := h
    refine ⟨_, (pss_one (ps_ret (pe_callTy call_tuple_of (by rfl) Z.tuple (by decide +kernel) (pa_cons (pe_callB (cr_sortE (a := Cell) (by decide) (ru64 hr)) (by rfl) Z.sorted (by decide +kernel) (pa_cons (pe_lc (own := [("one", 2)]) (g := gName 2) rfl sc_neighbours_of.nd (pi_tup (pe_cal C_beside (hr.mono (by decide)) (pa_cons (pv 1) pa_nil))) (blkOk_by (N := n_neighbours_of) (sc := defScope s_neighbours_of) (by decide +kernel)) (fun _ _ _ _ _ => (pg_name (i := 2) sc_neighbours_of.nd rfl (Or.inl rfl))) (fun _ _ _ _ _ => (pts_one (pt_cmpR (op_inU (ru65 hr) : OpR _ _ (rInU K)) (pv 2) (pv 0) (by rfl)))) (fun _ _ _ _ _ => (pv 2))) pa_nil)) pa_nil)))), ?_⟩
    have e0 : srt ((nbs c).filter fun x => memB x b) = nearL b c := by
      unfold nearL
      congr 1
      exact List.filter_congr fun x hx => by rw [Bool.eq_iff_iff, memB_iff, decide_eq_true_iff]
    refine s_ret (P := en (nearL b c)) (EvP.is (ev_tupleL rfl (en_sort ((en_lcT (f := fun x => x) (p := fun x => memB x b) (ev_c1 (P1 := en c) (ea_cons (ev_var rfl h2) ea_nil) ⟨_, rfl, rfl⟩) (Nat.le_of_ble_eq_true rfl) fun x u H' hx e hu => ⟨eb_test (ev_inU (ev_var rfl hu) (ev_var rfl (en_up e h1))), fun _ => ev_var rfl hu⟩).is (List.map_id' _)).li (.inl fun x _ => ⟨_, _, rfl⟩)).li) e0) fun v H1 e h => q v H1 e h
abbrev s_distances_from : Stmt := topS 31
abbrev n_distances_from : List Str := ["root", "squares", "found", "line", "later", "cell", "other"]
theorem sc_distances_from : FnScope n_distances_from ["root", "squares"] (defScope s_distances_from) := ⟨rfl, rfl, rfl, by decide +kernel, rfl, by decide +kernel, by decide +kernel⟩
def spDist : Sp := fun vs H Q _ => ∃ (v1 : V) (pd : Addr) (root : Cell) (m : List (Cell × Bool)), vs = [v1, .ref pd] ∧ En H v1 root ∧ Dc H pd m ∧ m.length ≤ 1000 ∧ (dget m root).isSome = true ∧ (∀ x, (dget m x).isSome = true → Reach (fun y => (dget m y).isSome = true) root x) ∧
  ∀ pf fr H', H pf = none → FarOf (fun y => (dget m y).isSome = true) root (fun x => dget fr x) → Ex H H' → Dc (β := Int) H' pf fr → (∀ x v, dget fr x = some v → v ≤ 1000) → Q (.ref pf) H'
theorem spDist_len {x y : Str} : ∀ vs H Q E, spDist vs H Q E → vs.length = [x, y].length := fun vs H Q E ⟨_, _, _, _, e, _⟩ => by
  subst e
  rfl
theorem BInvL.none {S : Cell → Prop} {root : Cell} {lap : Nat} {fr : List (Cell × Int)} (B : BInvL S root lap [] fr) (hr : ∀ x, S x → Reach S root x) : ∀ x, S x → ∃ v, dget fr x = some v := fun x hx => by
  refine Option.isSome_iff_exists.mp ((hr x hx).inside (T := fun y => (dget fr y).isSome = true) (dget_isSome_of B.root) fun a b ta _ hb sb => ?_).1
  obtain ⟨v, hv⟩ := Option.isSome_iff_exists.mp ta
  obtain ⟨_, _, h3, _, h5⟩ := B.key a v hv
  refine B.full a v hv ?_ b hb sb
  rcases Int.lt_or_eq_of_le h3 with h | h
  · exact h
  · have := h5 h
    cases this
theorem ok_distances_from (T : Txt K mg "distances_from" "distances_from" s_distances_from ["root", "squares"]) (Z : Blt mg) (C_beside : Cal P w K mg base 4 "beside" ["cell"] spBeside) : Cal P w K mg base 5 "distances_from" ["root", "squares"] spDist :=
  T.cal sc_distances_from spDist_len fun f cdv A outer s H vs Q E hr h => by
    obtain ⟨v1, pr, root, m, rfl, h1, hr0, hml, hroot, hreach, q⟩ := h
    refine ⟨_, (pss_cons (ps_par (i := 2) (j := 3) rfl sc_distances_from.nd rfl rfl (by decide) rfl rfl (pa_cons (pe_dispT (ru64 hr) (pv 0) pe_int) (pa_cons (pe_lst (pa_cons (pv 0) pa_nil)) pa_nil)) (by rfl))
      (pss_cons (ps_while PassesOwn.never (pt_truth (pv 3) (by intro _; rfl)) (pss_cons (ps_set (i := 4) sc_distances_from.nd rfl (Or.inl rfl) (pe_lst pa_nil))
      (pss_cons (ps_for PassesOwn.never rfl (pi_list (pv 3)) (pg_name (i := 5) sc_distances_from.nd rfl (Or.inl rfl)) (pss_one (ps_for PassesOwn.never rfl (pi_tup (pe_cal C_beside (hr.mono (by decide)) (pa_cons (pv 5) pa_nil))) (pg_name (i := 6) sc_distances_from.nd rfl (Or.inl rfl)) (pss_one (ps_if (PW.pt (pw_and (pt_cmp ((pc_din (ru1 hr)) (pv 6) (pv 1))) (pw_and1 (pt_cmp ((pc_dnotin (ru1 hr)) (pv 6) (pv 2)))))) (pss_cons (ps_dput (ru1 hr) (pv 2) (pv 6) (pe_op op_add (pe_dget (ru1 hr) (pv 2) (pv 5) (fun _ _ => rfl)) pe_int) rfl)
      (pss_one (ps_expr (pe_bm PySem.F.plainAttrs_list PySem.F.slot_list_append PySem.F.type_list_append mt_append (pv 4) (pa_cons (pv 6) pa_nil))))) pss_nil)))))
      (pss_one (ps_set (i := 3) sc_distances_from.nd rfl (Or.inl rfl) (pv 4))))))
      (pss_one (ps_ret (pv 2))))), ?_⟩
    refine q_parWW (P1 := ds [(root, (0 : Int))]) (P2 := li [root]) (ew_dispT (ev_var rfl h1) ev_int) (en_lst (xs := [root]) (ea_cons (ev_var rfl h1) ea_nil)).w fun pf pl H1 nf nl hfl e1 hf hl => ?_
    replace hf := ds_at hf
    replace hl := li_at hl
    have hprf : pr ≠ pf := hr0.ne_new nf
    have hB0 : BInvL (fun y => (dget m y).isSome = true) root 0 [root] [(root, 0)] := by
      have := BInvL.start (S := fun y => (dget m y).isSome = true) hroot
      rwa [show dput ([] : List (Cell × Int)) root 0 = [(root, 0)] from rfl] at this
    have hcnt : ∀ {lap : Nat} {ln : List Cell} {fr : List (Cell × Int)}, BInvL (fun y => (dget m y).isSome = true) root lap ln fr → fr.length ≤ m.length := fun B => by
      have h1 := nodup_len (xs := _) (ys := m.map (·.1)) B.nd fun x hx => by
        obtain ⟨k, hk⟩ := Option.isSome_iff_exists.mp (dget_some.mpr hx)
        exact dget_some.mp (B.key x k hk).1
      rwa [List.length_map, List.length_map] at h1
    refine q_while (fun n s' H' => ∃ u4 u5 u6 pl ln fr lap, s' = [some v1, some (.ref pr), some (.ref pf), some (.ref pl), u4, u5, u6] ∧ Mv [pf] H1 H' ∧ Dc (β := Int) H' pf fr ∧ Ls H' pl ln ∧ pl ≠ pf ∧ BInvL (fun y => (dget m y).isSome = true) root lap ln fr ∧ lap ≤ 1000 ∧ n = 1001 - lap) (m0 := 1001)
      ⟨_, _, _, pl, [root], _, 0, rfl, Mv.same, hf, hl, hfl.symm, hB0, Nat.zero_le _, rfl⟩ fun n s' H' ⟨u4, u5, u6, pl, ln, fr, lap, es, mm, hfr, hln, hne, B, hlap, en'⟩ => ?_
    subst es
    refine ⟨!ln.isEmpty, eb_truL hln (ev_vr rfl), fun hb H2 e2 => ?_, fun hb H2 e2 => ?_⟩
    · have hlne : ln ≠ [] := fun z => by rw [z] at hb; cases hb
      have hll := B.cnt hlne
      have hfl2 := hcnt B
      have hfr2 := hfr.up e2
      refine q_asgN (en_nil (α := Cell)) fun p7 H7 n7 e7 h7 => ?_
      have h7f : p7 ≠ pf := (hfr2.ne_new n7).symm
      have hr7 : Dc H7 pr m := (((hr0.up e1).mv (mem1 hprf) mm).up e2).up e7
      have hln7 := (hln.up e2).up e7
      refine q_forA [pf, p7] hln7 (ev_vr rfl) (mem2 hne ((hln.up e2).ne_new n7)) fun H8 e8 => ⟨fun i s2 H2' => ∃ u5 u6 fr2 lt, s2 = [some v1, some (.ref pr), some (.ref pf), some (.ref pl), some (.ref p7), u5, u6] ∧ Mv [pf, p7] H8 H2' ∧ Dc (β := Int) H2' pf fr2 ∧ Ls H2' p7 lt ∧ LInv (fun y => (dget m y).isSome = true) fr lap ln ((ln.take i).flatMap nbs) fr2 lt,
        ⟨_, _, fr, [], rfl, Mv.same, hfr2.up (e7.tr e8), h7.up e8, LInv.start B.nd⟩, fun i s2 H2' ⟨_, _, _, _, _, mm, _⟩ => mm, fun i y v s2 H2' hy hv ⟨u5, u6, fr2, lt, es, mm2, hfr2', hlt, I⟩ => ?_, fun s2 H2' ⟨u5, u6, fr2, lt, es, mm2, hfr2', hlt, I⟩ => ?_⟩
      · subst es
        refine s_forT (xs := nbs y) (ev_c1 (P1 := en y) (ea_cons (ev_var rfl hv) ea_nil) ⟨y, rfl, rfl⟩) fun H9 e9 => ⟨fun j s3 H3' => ∃ u6 fr3 lt3, s3 = [some v1, some (.ref pr), some (.ref pf), some (.ref pl), some (.ref p7), some v, u6] ∧ Mv [pf, p7] H9 H3' ∧ Dc (β := Int) H3' pf fr3 ∧ Ls H3' p7 lt3 ∧ LInv (fun y => (dget m y).isSome = true) fr lap ln ((ln.take i).flatMap nbs ++ (nbs y).take j) fr3 lt3,
          ⟨_, fr2, lt, rfl, Mv.same, hfr2'.up e9, hlt.up e9, by simpa using I⟩, fun j s3 H3' ⟨_, _, _, _, mm, _⟩ => mm.tu, fun j z u s3 H3' hz hu ⟨u6, fr3, lt3, es, mm3, hfr3, hlt3, I3⟩ => ?_, fun s3 H3' ⟨u6, fr3, lt3, es, mm3, hfr3, hlt3, I3⟩ => ?_⟩
        · subst es
          have hfl3 : fr3.length ≤ 1000 := by
            have := nodup_len (xs := fr3.map (·.1)) (ys := m.map (·.1)) I3.nd fun x hx => by
              obtain ⟨k, hk⟩ := Option.isSome_iff_exists.mp (dget_some.mpr hx)
              rcases I3.new x k hk with h | ⟨_, h⟩
              · exact dget_some.mp (B.key x k h).1
              · exact dget_some.mp (I3.lts x h).2.2.1
            rw [List.length_map, List.length_map] at this
            omega
          have hltl : lt3.length ≤ fr3.length := by
            have := I3.len
            omega
          have hr3 : Dc H3' pr m := (((hr7.up e8).mv (mem2 hprf (((hr0.up e1).mv (mem1 hprf) mm).up e2 |>.ne_new n7)) mm2).up e9).mv (mem2 hprf (((hr0.up e1).mv (mem1 hprf) mm).up e2 |>.ne_new n7)) mm3
          have hv3 := en_mv (en_up e9 hv) mm3
          have hfy : dget fr3 y = some (lap : Int) := I3.old _ _ (B.lns y (List.mem_of_getElem? hy))
          refine s_ifN (b := (dget m z).isSome && !(dget fr3 z).isSome) (eb_and (eb_test (ev_inD (ev_var rfl hu) (ev_ds rfl hr3))) fun _ => eb_test (ev_niD (ev_var rfl hu) (ev_ds rfl hfr3))) (fun hb H10 e10 => ?_) fun hb H10 e10 => ?_
          · rw [Bool.and_eq_true] at hb
            have hzn : dget fr3 z = none := by
              cases hq : dget fr3 z with
              | none => rfl
              | some k =>
                rw [hq] at hb
                cases hb.2
            refine q_dput (c := z) (x := (lap : Int) + 1) (hfr3.up e10) (ev_I (i := (lap : Int)) (ev_dget (ev_ds rfl (hfr3.up e10)) (ev_var rfl (en_up e10 hv3)) hfy) ev_int) (ev_vr rfl) (ev_var rfl (en_up e10 hu)) (by omega) fun H11 e11 H12 b12 hfr12 => ?_
            refine s_app' (x := z) ((hlt3.up (e10.tr e11)).but h7f b12) (ev_vr rfl) (ev_var rfl (Enc.mono b12.tu (en_up (e10.tr e11) hu))) (by omega) fun H13 e13 H14 b14 hlt14 => ?_
            refine ⟨_, _, _, rfl, ((((mm3.ex e10).ex e11).but b12 (.inl List.mem_cons_self)).ex e13).but b14 (.inl (List.mem_cons_of_mem _ List.mem_cons_self)), (hfr12.up e13).but h7f.symm b14, hlt14, ?_⟩
            rw [take_snoc hz, ← List.append_assoc]
            exact I3.add (List.mem_of_getElem? hy) (List.mem_of_getElem? hz) hb.1 hzn
          · refine ⟨_, fr3, lt3, rfl, mm3.ex e10, hfr3.up e10, hlt3.up e10, ?_⟩
            rw [take_snoc hz, ← List.append_assoc]
            refine I3.skip ?_
            by_cases hzS : (dget m z).isSome = true
            · right
              rw [hzS] at hb
              cases hq : (dget fr3 z).isSome with
              | true => rfl
              | false =>
                rw [hq] at hb
                cases hb
            · exact .inl hzS
        · subst es
          refine ⟨_, _, fr3, lt3, rfl, (mm2.ex e9).tr mm3, hfr3, hlt3, ?_⟩
          rw [show (nbs y).length = 4 from rfl, show (nbs y).take 4 = nbs y from rfl] at I3
          rw [take_snoc hy, List.flatMap_append, List.flatMap_singleton]
          exact I3
      · subst es
        refine s_asg (P := va (.ref p7)) (ev_vr rfl) fun v H9 e9 hv => ?_
        obtain rfl : v = .ref p7 := hv
        rw [List.take_length] at I
        refine ⟨_, ?_, _, _, _, p7, lt, fr2, lap + 1, rfl, ((mm.ex (e2.tr (e7.tr e8))).trw mm2 fun a ha => ?_).ex e9, hfr2'.up e9, hlt.up e9, h7f, B.next I, by omega, rfl⟩
        · omega
        · rcases List.mem_cons.mp ha with z | z
          · exact .inl (by rw [z]; exact List.mem_cons_self)
          · rw [List.mem_singleton.mp z]
            exact .inr (mm.back (mem1 h7f) (e2.back n7))
    · have hlnil : ln = [] := by
        cases ln with
        | nil => rfl
        | cons a r => cases hb
      subst hlnil
      have hF := B.far (B.none hreach)
      refine s_ret (P := va (.ref pf)) (ev_vr rfl) fun v H9 e9 hv => ?_
      obtain rfl : v = .ref pf := hv
      exact q pf fr H9 nf hF (((e1.mv mm (no1 nf)).tr e2).tr e9) ((hfr.up e2).up e9) fun x v h => by
        have := (B.key x v h).2.2.1
        omega
end
end TB
set_option Elab.async false
set_option linter.all false
set_option maxRecDepth 100000
set_option maxHeartbeats 4000000
/-! D82: witness_of. -/
namespace TB
open PySem PySem.Spec PyProof.Rows L2
theorem FarOf.to {S S' : Cell → Prop} {root : Cell} {F : Cell → Option Int} (h : FarOf S root F) (e : ∀ x, S x ↔ S' x) : FarOf S' root F :=
  ⟨fun x v q => ⟨(e x).mp (h.key x v q).1, (h.key x v q).2⟩, h.par, h.lip, fun x q => h.all x ((e x).mpr q)⟩
theorem wayv_of {F : Cell → Option Int} {x : Cell} {k : Nat} (h : F x = some (k : Int)) : wayv F x = pth F k x := by
  unfold wayv
  rw [h]
  rfl
theorem FarOf.pthIn {S : Cell → Prop} {root : Cell} {F : Cell → Option Int} (hF : FarOf S root F) : ∀ (n : Nat) (c : Cell), F c = some (n : Int) → ∀ x, x ∈ pth F n c → ∀ y, y ∈ wayv F x → y ∈ pth F n c := by
  intro n
  induction n with
  | zero =>
    intro c h x hx y hy
    rw [List.mem_singleton.mp hx, wayv_of h] at hy
    exact hy
  | succ n ih =>
    intro c h x hx y hy
    rcases List.mem_cons.mp hx with e | hx
    · rw [e, wayv_of h] at hy
      exact hy
    · obtain ⟨_, n2⟩ := hF.goN h (by omega)
      exact List.mem_cons_of_mem _ (ih (nxt F c) (by rw [n2]; congr 1; omega) x hx y hy)
theorem FarOf.nat {S : Cell → Prop} {root : Cell} {F : Cell → Option Int} (hF : FarOf S root F) {x : Cell} (h : S x) : ∃ k : Nat, F x = some (k : Int) := by
  obtain ⟨v, hv⟩ := hF.all x h
  obtain ⟨n, rfl⟩ := Int.eq_ofNat_of_zero_le (hF.key x v hv).2.1
  exact ⟨n, hv⟩
/-- a set of ways holds the way of each of its squares -/
theorem FarOf.closed {S : Cell → Prop} {root : Cell} {F : Cell → Option Int} (hF : FarOf S root F) {near : List Cell} (hn : ∀ x, x ∈ near → S x) {x : Cell} (hx : x = root ∨ x ∈ witL F near) (hr : S root) : ∀ y, y ∈ wayv F x → y = root ∨ y ∈ witL F near := fun y hy => by
  rcases hx with e | hx
  · subst e
    left
    obtain ⟨k, hk⟩ := hF.nat hr
    have h0 : (k : Int) = 0 := (hF.key x _ hk).2.2.mpr rfl
    obtain rfl : k = 0 := by omega
    rw [wayv_of hk] at hy
    exact List.mem_singleton.mp hy
  · right
    obtain ⟨c, hc, hxc⟩ := List.mem_flatMap.mp hx
    obtain ⟨k, hk⟩ := hF.nat (hn c hc)
    rw [wayv_of hk] at hxc
    refine List.mem_flatMap.mpr ⟨c, hc, ?_⟩
    rw [wayv_of hk]
    exact hF.pthIn k c hk x hxc y hy
section
variable {s : TSt} {H : Hp} {D : Ends} {tt : TT} {tu : TS}
theorem s_while (W : Nat → TSt → Hp → Prop) {m0 : Nat} (h0 : W m0 s H) (h : ∀ m s' H', W m s' H' → ∃ b, EvB tt s' H' b ∧ (b = true → ∀ H1, Ex H' H1 → tu { D with nx := fun s2 H2 => ∃ m', m' < m ∧ W m' s2 H2, ct := fun s2 H2 => ∃ m', m' < m ∧ W m' s2 H2, bk := D.nx } s' H1) ∧ (b = false → ∀ H1, Ex H' H1 → D.nx s' H1)) : tWhile tt tu D s H :=
  ⟨W, ⟨m0, h0⟩, fun m s' H' w => by
    obtain ⟨b, hb, h1, h2⟩ := h m s' H' w
    refine hb H' Ex.same _ fun H1 e1 => ?_
    cases b with
    | true => exact ⟨fun s2 H2 => ∃ m', m' < m ∧ W m' s2 H2, fun s2 H2 n => n, h1 rfl H1 e1⟩
    | false => exact h2 rfl H1 e1⟩
end
section
variable {P : Program} {w : World} {K : PySem.W.Frag} {mg : Str → Option Value} {base : Heap} {C CT CB : Addr}
abbrev s_witness_of : Stmt := topS 32
abbrev n_witness_of : List Str := ["body", "start", "rest", "near", "far", "found", "cell", "other"]
theorem sc_witness_of : FnScope n_witness_of ["body", "start"] (defScope s_witness_of) := ⟨rfl, rfl, rfl, by decide +kernel, rfl, by decide +kernel, by decide +kernel⟩
def spWitnessC (CT CB : Addr) : Sp := fun vs H Q E => ∃ (v1 v2 : V) (b : List Cell) (c : Cell), vs = [v1, v2] ∧ En H v1 b ∧ En H v2 c ∧ b.length ≤ 1000 ∧
  ((c ∈ b ∧ Hang (rest b c) ∧ (∃ z, z ∈ nbs c ∧ z ∈ b) ∧ ∀ ws u H', WitOf b c ws → Ex H H' → En H' u ws → Q u H') ∨
   (c ∉ b ∧ ∀ d H', Ex H H' → H' d = some (.xd [("cell", v2)]) → E (.ref CT) (some d) H') ∨
   (c ∈ b ∧ ¬ Hang (rest b c) ∧ ∀ d u H', Ex H H' → H' d = some (.xd [("cells", u)]) → En H' u (rest b c) → E (.ref CB) (some d) H'))
theorem spWitnessC_len {CT CB : Addr} {x y : Str} : ∀ vs H Q E, spWitnessC CT CB vs H Q E → vs.length = [x, y].length := fun vs H Q E ⟨_, _, _, _, e, _⟩ => by
  subst e
  rfl
theorem ok_witness_of (T : Txt K mg "witness_of" "witness_of" s_witness_of ["body", "start"]) (Z : Blt mg) (N_NotThere : E1M P w K mg base CT "NotThere" "cell") (N_BadBody : E1M P w K mg base CB "BadBody" "cells") (C_beside : Cal P w K mg base 4 "beside" ["cell"] spBeside)
    (C_hangs : Cal P w K mg base 7 "hangs" ["cells"] spHangsC) (C_squares_of : Cal P w K mg base 1 "squares_of" ["body"] spSquares) (C_neighbours_of : Cal P w K mg base 5 "neighbours_of" ["body", "cell"] spNeigh) (C_distances_from : Cal P w K mg base 5 "distances_from" ["root", "squares"] spDist) :
    CalX P w K mg base 8 "witness_of" ["body", "start"] (spWitnessC CT CB) :=
  T.calX sc_witness_of spWitnessC_len fun f cdv A outer s H vs Q E hr h => by
    obtain ⟨v1, v2, b, c, rfl, h1, h2, hlen, h⟩ := h
    refine ⟨_, (pss_cons (ps_if (pt_cmpR (op_notInU (ru65 hr)) (pv 1) (pv 0) (by rfl)) (pss_one (ps_raise rfl (takes_of rfl rfl rfl rfl) (pmk_e1 N_NotThere (hr.mono (by decide)) (pa_cons (pv 1) pa_nil)))) pss_nil)
      (pss_cons (ps_set (i := 2) sc_witness_of.nd rfl (Or.inl rfl) (pe_callTy call_tuple_of (by rfl) Z.tuple (by decide +kernel) (pa_cons (pe_lc (own := [("cell", 6)]) (g := gName 6) rfl sc_witness_of.nd (pi_tup (pv 0)) (blkOk_by (N := n_witness_of) (sc := defScope s_witness_of) (by decide +kernel)) (fun _ _ _ _ _ => (pg_name (i := 6) sc_witness_of.nd rfl (Or.inl rfl))) (fun _ _ _ _ _ => (pts_one (pt_cmpR (op_neD (ru64 hr) : OpR _ _ (rNeD K)) (pv 6) (pv 1) (nomark _)))) (fun _ _ _ _ _ => (pv 6))) pa_nil)))
      (pss_cons (ps_if (pt_not (pt_val (pe_cal C_hangs (hr.mono (by decide)) (pa_cons (pv 2) pa_nil)))) (pss_one (ps_raise rfl (takes_of rfl rfl rfl rfl) (pmk_e1 N_BadBody (hr.mono (by decide)) (pa_cons (pv 2) pa_nil)))) pss_nil)
      (pss_cons (ps_set (i := 3) sc_witness_of.nd rfl (Or.inl rfl) (pe_cal C_neighbours_of (hr.mono (by decide)) (pa_cons (pv 0) (pa_cons (pv 1) pa_nil))))
      (pss_cons (ps_set (i := 4) sc_witness_of.nd rfl (Or.inr rfl) (pe_cal C_distances_from (hr.mono (by decide)) (pa_cons (pe_ix ix_tup (pv 3) pe_int (fun _ _ => rfl)) (pa_cons (pe_cal C_squares_of (hr.mono (by decide)) (pa_cons (pv 2) pa_nil)) pa_nil))))
      (pss_cons (ps_set (i := 5) sc_witness_of.nd rfl (Or.inl rfl) (pe_dispT (ru64 hr) (pe_ix ix_tup (pv 3) pe_int (fun _ _ => rfl)) pe_bl))
      (pss_cons (ps_for (passes_of rfl) rfl (pi_tup (pv 3)) (pg_name (i := 6) sc_witness_of.nd rfl (Or.inr rfl)) (pss_one (ps_while (passes_of rfl) (pt_cmp ((pc_dnotin (ru1 hr)) (pv 6) (pv 5))) (pss_cons (ps_dput (ru1 hr) (pv 5) (pv 6) pe_bl rfl)
      (pss_one (ps_set (i := 6) sc_witness_of.nd rfl (Or.inr rfl) (pe_callB (cr_minE (a := Cell) (by decide) rfl (ru64 hr)) (by rfl) Z.min (by decide +kernel) (pa_cons (pe_lc (own := [("other", 7)]) (g := gName 7) rfl sc_witness_of.nd (pi_tup (pe_cal C_beside (hr.mono (by decide)) (pa_cons (pv 6) pa_nil))) (blkOk_by (N := n_witness_of) (sc := defScope s_witness_of) (by decide +kernel)) (fun _ _ _ _ _ => (pg_name (i := 7) sc_witness_of.nd rfl (Or.inl rfl))) (fun _ _ _ _ _ => (pts_one (pt_cmpR op_eq (pe_dget1 (ru1 hr) (pv 4) (pv 7) ⟨rfl, rfl, rfl, rfl⟩) (pe_op op_sub (pe_dget (ru1 hr) (pv 4) (pv 6) (fun _ _ => rfl)) pe_int) (nomark _)))) (fun _ _ _ _ _ => (pv 7))) pa_nil))))))))
      (pss_one (ps_ret (pe_callTy call_tuple_of (by rfl) Z.tuple (by decide +kernel) (pa_cons (pe_callB (cr_sortE (a := Cell) (by decide) (ru64 hr)) (by rfl) Z.sorted (by decide +kernel) (pa_cons (pe_callTy (call_list_dT rfl) (by rfl) Z.list (by decide +kernel) (pa_cons (pv 5) pa_nil)) pa_nil)) pa_nil))))))))))), ?_⟩
    have hrl : (rest b c).length ≤ 1000 := Nat.le_trans rest_len hlen
    refine q_ifN (b := !memB c b) (eb_test (ev_niU (ev_var rfl h2) (ev_var rfl h1))) (fun hb H1 e1 => ?_) fun hb H1 e1 => ?_
    · have hno : c ∉ b := fun z => by
        rw [memB_iff.mpr z] at hb
        cases hb
      rcases h with ⟨hin, _⟩ | ⟨_, qT⟩ | ⟨hin, _⟩
      · exact absurd hin hno
      · exact e1_raise (v := v2) rfl fun d H' e hd => qT d H' (e1.tr e) hd
      · exact absurd hin hno
    · have hin : c ∈ b := by
        cases hz : memB c b with
        | true => exact memB_iff.mp hz
        | false =>
          rw [hz] at hb
          cases hb
      refine q_asg (P := en (rest b c)) (ev_tupleL rfl ((en_lcT (f := fun x => x) (p := fun x => !decide (x = c)) (ev_var rfl (en_up e1 h1)) (by omega) fun x u H' hx e hu => ⟨eb_test (ev_neE (ev_var rfl hu) (ev_var rfl (en_up (e1.tr e) h2))), fun _ => ev_var rfl hu⟩).is (List.map_id' _)).li) fun vr H2 e2 hvr => ?_
      have e02 := e1.tr e2
      refine q_ifN (b := !hangB (rest b c)) (eb_not (eb_B (ev_c1 (P1 := en (rest b c)) (ea_cons (ev_var rfl hvr) ea_nil) ⟨_, .inl rfl, hrl, rfl⟩))) (fun hb H3 e3 => ?_) fun hb H3 e3 => ?_
      · have hno : ¬ Hang (rest b c) := fun z => by
          rw [hangB_iff.mpr z] at hb
          cases hb
        rcases h with ⟨_, hh, _⟩ | ⟨hh, _⟩ | ⟨_, _, qB⟩
        · exact absurd hh hno
        · exact absurd hin hh
        · exact e1_raise (v := vr) rfl fun d H' e hd => qB d vr H' ((e02.tr e3).tr e) hd (en_up (e3.tr e) hvr)
      · have hhang : Hang (rest b c) := by
          cases hz : hangB (rest b c) with
          | true => exact hangB_iff.mp hz
          | false =>
            rw [hz] at hb
            cases hb
        rcases h with ⟨_, _, hzz, q⟩ | ⟨hh, _⟩ | ⟨_, hh, _⟩
        · have e03 := e02.tr e3
          obtain ⟨nrr, enr⟩ := near_ne hzz
          refine q_asg (P := en (nearL b c)) (ev_c2 (P1 := en b) (P2 := en c) (ea_cons (ev_var rfl (en_up e03 h1)) (ea_cons (ev_var rfl (en_up e03 h2)) ea_nil)) ⟨_, _, rfl, rfl, rfl⟩) fun vn H4 e4 hvn => ?_
          have hnearS : ∀ x, x ∈ nearL b c → x ∈ rest b c := fun x hx => (rest_near (mem_nearL.mp hx).1).mpr (mem_nearL.mp hx).2
          generalize hrt : (nearL b c).headD (0, 0) = root at enr
          have hrootS : root ∈ rest b c := hnearS root (by rw [enr]; exact List.mem_cons_self)
          have hat : atI (nearL b c) 0 = some root := by
            rw [enr]
            exact atI_nat (j := 0) rfl
          have hS : ∀ x, (dget (dall (rest b c)) x).isSome = true ↔ x ∈ rest b c := fun x => dall_mem
          refine raw_asgG (raw_call (raw_cons ((ev_ixT (ev_var (P := en (nearL b c)) rfl hvn) ev_int hat) H4 Ex.same _ fun v5 H5 e5 hv5 => raw_cons ((ew_c1 (P1 := en (rest b c)) (ea_cons (ev_var (P := en (rest b c)) rfl (en_up ((e3.tr e4).tr e5) hvr)) ea_nil) ⟨_, .inl rfl, hrl, rfl⟩) H5 Ex.same _ fun pr H6 n6 n6' e6 hr6 => ⟨v5, pr, root, dall (rest b c), rfl, en_up e6 hv5, ds_at hr6, Nat.le_trans (dall_len _) hrl, (hS root).mpr hrootS, fun x hx => (hhang.2 root hrootS x ((hS x).mp hx)).wide fun z hz => (hS z).mpr hz, fun pf fr H7 nf hF e7 hfr hle => ?_⟩))))
          replace hF : FarOf (· ∈ rest b c) root (fun x => dget fr x) := hF.to hS
          have e47 := (e5.tr e6).tr e7
          have hvn7 := en_up e47 hvn
          have e07 := (e03.tr e4).tr e47
          refine q_asgW (P := ds [(root, true)]) (ew_dispT (ev_ixT (ev_var (P := en (nearL b c)) rfl hvn7) ev_int hat) ev_bl) fun pw H8 nw e8 hw => ?_
          replace hw := ds_at hw
          have hwf : pf ≠ pw := hfr.ne_new nw
          refine q_forT (xs := nearL b c) (ev_var rfl (en_up e8 hvn7)) fun H9 e9 => ⟨fun i s' H' => ∃ W u6 u7, s' = [some v1, some v2, some vr, some vn, some (.ref pf), some (.ref pw), u6, u7] ∧ Mv [pw] H9 H' ∧ Dc (β := Bool) H' pw W ∧ (W.map (·.1)).Nodup ∧ ∀ x, (dget W x).isSome = true ↔ x = root ∨ x ∈ witL (fun x => dget fr x) ((nearL b c).take i),
            ⟨[(root, true)], _, _, rfl, Mv.same, hw.up e9, by simp, fun x => ?_⟩, fun i s' H' ⟨_, _, _, _, mm, _⟩ => mm.tu, fun i c0 v s' H' hc0 hv ⟨W, u6, u7, es, mm, hW, hnd, hex⟩ => ?_, fun s' H' ⟨W, u6, u7, es, mm, hW, hnd, hex⟩ => ?_⟩
          · rw [dget_cons, dget_nil]
            by_cases e : root = x
            · simp [e]
            · have : ¬ x = root := fun z => e z.symm
              simp [e, this, witL]
          · subst es
            have hc0S : c0 ∈ rest b c := hnearS c0 (List.mem_of_getElem? hc0)
            obtain ⟨k0, hk0⟩ := hF.nat hc0S
            have hWS : ∀ x, (dget W x).isSome = true → x ∈ rest b c := fun x hx => by
              rcases (hex x).mp hx with e | hx
              · rw [e]
                exact hrootS
              · obtain ⟨z, hz, hxz⟩ := List.mem_flatMap.mp hx
                exact (hF.pvW (hnearS z (List.mem_of_mem_take hz))).2.1 x hxz
            have hrW : (dget W root).isSome = true := (hex root).mpr (.inl rfl)
            refine s_while (fun n s2 H2 => ∃ vh here W3 u7 k, s2 = [some v1, some v2, some vr, some vn, some (.ref pf), some (.ref pw), some vh, u7] ∧ Mv [pw] H' H2 ∧ Dc (β := Bool) H2 pw W3 ∧ (W3.map (·.1)).Nodup ∧ En H2 vh here ∧ here ∈ rest b c ∧ dget fr here = some ((k : Nat) : Int) ∧
                (∀ x, ((dget W3 x).isSome = true ∨ x ∈ pth (fun x => dget fr x) k here) ↔ ((dget W x).isSome = true ∨ x ∈ wayv (fun x => dget fr x) c0)) ∧ (∀ x, (dget W3 x).isSome = true → (dget W x).isSome = true ∨ ∃ j : Nat, dget fr x = some (j : Int) ∧ k < j) ∧ (∀ x, (dget W x).isSome = true → (dget W3 x).isSome = true) ∧ (∀ x, (dget W3 x).isSome = true → x ∈ rest b c) ∧ n = k) (m0 := k0)
              ⟨v, c0, W, u7, k0, rfl, Mv.same, hW, hnd, hv, hc0S, hk0, (fun x => by rw [wayv_of (F := fun x => dget fr x) hk0]), fun x hx => .inl hx, fun x hx => hx, hWS, rfl⟩ fun n s2 H2 ⟨vh, here, W3, u7, k, es, mm2, hW3, hnd3, hvh, hhS, hfh, hex3, hpre, hkeep, hW3S, en'⟩ => ?_
            subst es
            refine ⟨!(dget W3 here).isSome, eb_test (ev_niD (ev_var rfl hvh) (ev_ds rfl hW3)), fun hb Ha ea => ?_, fun hb Ha ea => ?_⟩
            · have hni : (dget W3 here).isSome = false := by simpa using hb
              have hk1 : 1 ≤ k := by
                rcases Nat.eq_zero_or_pos k with z | z
                · exfalso
                  have hr : here = root := (hF.key here _ hfh).2.2.mp (by rw [z]; rfl)
                  rw [hr, hkeep root hrW] at hni
                  cases hni
                · exact z
              obtain ⟨k', rfl⟩ : ∃ k', k = k' + 1 := ⟨k - 1, by omega⟩
              have hW3l : W3.length ≤ 1000 := by
                have := nodup_len (xs := W3.map (·.1)) (ys := rest b c) hnd3 fun x hx => hW3S x (dget_some.mpr hx)
                rw [List.length_map] at this
                omega
              refine q_dput (c := here) (x := true) (hW3.up ea) ev_bl (ev_vr rfl) (ev_var rfl (en_up ea hvh)) (by omega) fun Hb eb Hc bc hW4 => ?_
              have mm4 : Mv [pw] H' Hc := ((mm2.ex ea).ex eb).but bc (.inl List.mem_cons_self)
              have hvh4 : En Hc vh here := Enc.mono bc.tu (en_up (ea.tr eb) hvh)
              have hfr4 : Dc (β := Int) Hc pf fr := ((((hfr.up e8).up e9).mv (mem1 hwf) mm)).mv (mem1 hwf) mm4
              have hcnd : (nbs here).filter (fun x => decide (dget fr x = some (((k' + 1 : Nat) : Int) - 1))) = cand (fun x => dget fr x) here := by
                unfold cand
                show _ = (nbs here).filter fun y => decide (dget fr y = some ((dget fr here).getD 0 - 1))
                rw [hfh]
                rfl
              obtain ⟨n1, n2⟩ := hF.goN hfh (by omega)
              have hcne : cand (fun x => dget fr x) here ≠ [] := fun z => by
                obtain ⟨y, hy, hfy⟩ := hF.par here _ hfh (by omega)
                have : y ∈ cand (fun x => dget fr x) here := by
                  rw [← hcnd]
                  exact List.mem_filter.mpr ⟨hy, decide_eq_true hfy⟩
                rw [z] at this
                cases this
              refine s_asg (ev_minX ((en_lcT (f := fun x => x) (p := fun x => decide (dget fr x = some (((k' + 1 : Nat) : Int) - 1))) (ev_c1 (P1 := en here) (ea_cons (ev_var rfl hvh4) ea_nil) ⟨_, rfl, rfl⟩) (Nat.le_of_ble_eq_true rfl) fun x u H'' hx e'' hu => ⟨eb_test (ev_eqO (ev_getO (ev_ds rfl (hfr4.up e'')) (ev_var rfl hu)) (ev_I (g := fun i j => i - j) (ev_dget (ev_ds rfl (hfr4.up e'')) (ev_var rfl (en_up e'' hvh4)) hfh) ev_int)), fun _ => ev_var rfl hu⟩).is ((List.map_id' _).trans hcnd)).li hcne) fun v15 Hd ed ⟨there, ⟨_, y0, r0, e0, htl⟩, hv15⟩ => ?_
              have hth : there = nxt (fun x => dget fr x) here := by rw [htl, nxt_cons e0]
              refine ⟨k', Nat.lt_of_lt_of_eq (Nat.lt_succ_self k') en'.symm, v15, nxt (fun x => dget fr x) here, _, u7, k', rfl, mm4.ex ed, hW4.up ed, dput_nd hnd3, by rw [← hth]; exact hv15, (hF.key _ _ n2).1, ?_, ?_, ?_, ?_, ?_, rfl⟩
              · have n2' : dget fr (nxt (fun x => dget fr x) here) = some (((k' + 1 : Nat) : Int) - 1) := n2
                rw [n2']
                congr 1
                omega
              · exact pth_step (A := fun x => (dget W3 x).isSome = true) (A' := fun x => (dget (dput W3 here true) x).isSome = true) (W := fun x => (dget W x).isSome = true) hex3 fun x => put_in
              · intro x hx
                rcases put_in.mp hx with e | hx
                · rw [e]
                  exact .inr ⟨k' + 1, hfh, Nat.lt_succ_self k'⟩
                · rcases hpre x hx with h | ⟨j, h3, h4⟩
                  · exact .inl h
                  · exact .inr ⟨j, h3, by omega⟩
              · exact fun x hx => put_in.mpr (.inr (hkeep x hx))
              · intro x hx
                rcases put_in.mp hx with e | hx
                · rw [e]
                  exact hhS
                · exact hW3S x hx
            · have hyes : (dget W3 here).isSome = true := by simpa using hb
              have hWh : (dget W here).isSome = true := by
                rcases hpre here hyes with h | ⟨j, h3, h4⟩
                · exact h
                · rw [hfh] at h3
                  have : (k : Int) = (j : Int) := Option.some.inj h3
                  omega
              have hcl := hF.closed (near := (nearL b c).take i) (fun x hx => hnearS x (List.mem_of_mem_take hx)) ((hex here).mp hWh) hrootS
              refine ⟨W3, _, _, rfl, (mm.tr mm2).ex ea, hW3.up ea, hnd3, fun x => ?_⟩
              rw [witL_snoc hc0, ← or_assoc, ← hex x, ← hex3 x]
              constructor
              · exact .inl
              · rintro (h | h)
                · exact h
                · rw [← wayv_of (F := fun x => dget fr x) hfh] at h
                  exact hkeep x ((hex x).mpr (hcl x h))
          · subst es
            rw [List.take_length] at hex
            have mmz : Ex H H' := (((e07.tr e8).tr e9)).mv mm (no1 (e07.back nw))
            refine s_ret (ev_tupleL rfl (en_sort (en_keys rfl (ev_ds rfl hW)).li (.inl fun x _ => ⟨_, _, rfl⟩)).li) fun v Ha ea hv => q (srt (W.map fun p : Cell × Bool => p.1)) v Ha (srt_wit (F := fun x => dget fr x) (by rw [hrt]; exact hF) hnd fun x => ?_) (mmz.tr ea) hv
            rw [← dget_some, hex x]
            constructor
            · rintro (h | h)
              · rw [h]
                refine List.mem_flatMap.mpr ⟨root, by rw [enr]; exact List.mem_cons_self, (hF.pvW hrootS).1⟩
              · exact h
            · exact .inr
        · exact absurd hin hh
        · exact absurd hhang hh
end
end TB
set_option Elab.async false
set_option linter.all false
set_option maxRecDepth 100000
set_option maxHeartbeats 4000000
/-! D83: is_move, walked, first_wrong of the code, with ends that are no cells. -/
namespace TB
open PySem PySem.Spec PyProof.Rows L2
/-- ends that are no cells -/
inductive Oe where
  | n
  | five
  | l01
  | tA
def OeAt (H : Hp) (v : V) : Oe → Prop
  | .n => v = .non
  | .five => v = .int 5
  | .l01 => ∃ a, v = .ref a ∧ H a = some (.lst [.int 0, .int 1])
  | .tA => ∃ a, v = .ref a ∧ H a = some (.tup [.str "a", .int 0])
theorem OeAt.up {H H' : Hp} {v : V} (e : Ex H H') : ∀ {x : Oe}, OeAt H v x → OeAt H' v x
  | .n, h => h
  | .five, h => h
  | .l01, ⟨a, h1, h2⟩ => ⟨a, h1, e _ _ h2⟩
  | .tA, ⟨a, h1, h2⟩ => ⟨a, h1, e _ _ h2⟩
theorem OeAt.mv {H H' : Hp} {v : V} {S : List Addr} (m : Mv S H H') (hS : ∀ a, a ∈ S → ∀ us, H a ≠ some (.lst us)) : ∀ {x : Oe}, OeAt H v x → OeAt H' v x
  | .n, h => h
  | .five, h => h
  | .l01, ⟨a, h1, h2⟩ => ⟨a, h1, m.ch _ _ (fun z => hS a z _ h2) h2⟩
  | .tA, ⟨a, h1, h2⟩ => ⟨a, h1, m.tu _ _ h2⟩
def oe (o : Oe) : Pd := ⟨fun H v => OeAt H v o, fun e h => h.up e⟩
/-- a pair of a cell and a value -/
inductive It2 where
  | ok (m : Cell × Cell)
  | odd (c : Cell) (w : V)
def it2R : Rl It2 := ⟨fun H v x => match x with
  | .ok m => En H v m
  | .odd c w => ∃ T u, v = .ref T ∧ H T = some (.tup [u, w]) ∧ En H u c, fun {H H' v x} e h => by
  cases x with
  | ok m => exact en_up e h
  | odd c w =>
    obtain ⟨T, u, h1, h2, h3⟩ := h
    exact ⟨T, u, h1, e _ _ h2, en_up e h3⟩, fun {H H' S v x} _ m h => by
  cases x with
  | ok _ => exact Enc.mono m.tu h
  | odd c w =>
    obtain ⟨T, u, h1, h2, h3⟩ := h
    exact ⟨T, u, h1, m.tu _ _ h2, Enc.mono m.tu h3⟩⟩
section
variable {K : PySem.W.Frag} {s : TSt} {H : Hp} {ta tx : TE}
theorem ev_notKd {b : Bool} {r : R2} (hr : r = fun x y H Q => y = .non ∧ Q (.bl (!decide (x = .non))) H) (ha : EvP ta s H (kd b)) : EvP (tOp r ta (tC .non)) s H (en b) := fun H1 e Q q =>
  ha H1 e _ fun v H2 e2 hv => by
    subst hr
    cases b with
    | true =>
      obtain ⟨x, rfl⟩ : ∃ x, v = .str x := hv
      exact ⟨rfl, q _ H2 e2 rfl⟩
    | false =>
      obtain rfl : v = .non := hv
      exact ⟨rfl, q _ H2 e2 rfl⟩
def Oe.isT : Oe → Bool
  | .tA => true
  | _ => false
theorem ev_isTO {o : Oe} (hx : EvP tx s H (oe o)) : EvP (tCB (rIsi K) (tCons tx (tCons (tC (.ty "tuple")) tNil))) s H (en o.isT) := fun H1 e Q q =>
  hx H1 e _ fun v H2 e2 hv => by
    have hv : OeAt H2 v o := hv
    cases o with
    | n =>
      obtain rfl : v = .non := hv
      exact ⟨.non, .ty "tuple", .type "NoneType", .type "tuple", false, rfl, .ty "tuple", .base .non, rfl, q _ H2 e2 rfl⟩
    | five =>
      obtain rfl : v = .int 5 := hv
      exact ⟨.int 5, .ty "tuple", .type "int", .type "tuple", false, rfl, .ty "tuple", .base (.int 5), rfl, q _ H2 e2 rfl⟩
    | l01 =>
      obtain ⟨a, rfl, ha⟩ := hv
      exact ⟨.ref a, .ty "tuple", .type "list", .type "tuple", false, rfl, .ty "tuple", .base (.lst ha), rfl, q _ H2 e2 rfl⟩
    | tA =>
      obtain ⟨a, rfl, ha⟩ := hv
      exact ⟨.ref a, .ty "tuple", .type "tuple", .type "tuple", true, rfl, .ty "tuple", .base (.tup ha), rfl, q _ H2 e2 rfl⟩
theorem ev_lenO {r : List V → Hp → VK → Prop} (hr : r = fun xs H Q => ∃ p ys, xs = [V.ref p] ∧ (SqL K H p ys ∨ SqT K H p ys) ∧ Q (.int ys.length) H) (ha : EvP ta s H (oe .tA)) : EvP (tCB r (tCons ta tNil)) s H (en (2 : Int)) := fun H1 e Q q =>
  ha H1 e _ fun v H2 e2 hv => by
    obtain ⟨p, rfl, h1⟩ := hv
    subst hr
    exact ⟨p, _, rfl, .inr (.inl (.inl h1)), q _ H2 e2 rfl⟩
theorem ev_0O (ha : EvP ta s H (oe .tA)) : EvP (tOp (rIxT K) ta (tC (.int 0))) s H (va (.str "a")) := fun H1 e Q q =>
  ha H1 e _ fun v H2 e2 hv => by
    obtain ⟨p, rfl, h1⟩ := hv
    exact ⟨p, [.str "a", .int 0], 0, .str "a", rfl, rfl, .inl (.inl h1), rfl, q _ H2 e2 rfl⟩
theorem ev_isS {c : String} {b : Bool} {x : Str} (hx : EvP tx s H (va (.str x))) (h : PySem.W.kitOne K (.type "str") (.type c) = some b) : EvP (tCB (rIsi K) (tCons tx (tCons (tC (.ty c)) tNil))) s H (en b) := fun H1 e Q q =>
  hx H1 e _ fun v H2 e2 hv => by
    obtain rfl : v = .str x := hv
    exact ⟨.str x, .ty c, .type "str", .type c, b, rfl, .ty c, .base (.str x), h, q _ H2 e2 rfl⟩
end
section
variable {P : Program} {w : World} {K : PySem.W.Frag} {mg : Str → Option Value} {base : Heap} {C CT CB : Addr}
def spWholeA : Sp := S1 fun P1 Pz => (∃ i : Int, P1 = en i ∧ Pz = en true) ∨ (P1 = va (.str "a") ∧ Pz = en false)
theorem ok_is_wholeA (T : Txt K mg "is_whole" "is_whole" s_is_whole ["value"]) (Z : Blt mg) : Cal P w K mg base 1 "is_whole" ["value"] spWholeA :=
  T.cal sc_is_whole S1.len fun f cdv A outer s H vs Q E hr h => by
    obtain ⟨v, P1, Pz, rfl, h, hv, q⟩ := h
    refine ⟨_, (pss_one (ps_ret (pe_and (pe_callB call_isi (by rfl) Z.isinstance (by decide +kernel) (pa_cons (pv 0) (pa_cons (pe_bltn (v := .ty "int") (by rfl) Z.int (by decide +kernel) rfl) pa_nil))) (pe_one (pe_not (pe_callB call_isi (by rfl) Z.isinstance (by decide +kernel) (pa_cons (pv 0) (pa_cons (pe_bltn (v := .ty "bool") (by rfl) Z.bool (by decide +kernel) rfl) pa_nil)))))))), ?_⟩
    rcases h with ⟨i, rfl, rfl⟩ | ⟨rfl, rfl⟩
    · exact s_ret (P := en (true && (!false))) (ev_andV (ev_isI (i := i) (ev_var rfl hv) (by rfl)) fun _ => ev_notV (ev_isI (i := i) (ev_var rfl hv) (by rfl))) fun v H1 e h => q v H1 e h
    · exact s_ret (P := en (false && true)) (ev_andV (ev_isS (x := "a") (ev_var rfl hv) (by rfl)) fun z => by cases z) fun v H1 e h => q v H1 e h
def spIsCellA : Sp := S1 fun P1 Pz => (∃ c : Cell, P1 = en c ∧ Pz = en true) ∨ ∃ o, P1 = oe o ∧ Pz = en false
theorem ok_is_cellA (T : Txt K mg "is_cell" "is_cell" s_is_cell ["value"]) (Z : Blt mg) (C_is_whole : Cal P w K mg base 1 "is_whole" ["value"] spWholeA) : Cal P w K mg base 2 "is_cell" ["value"] spIsCellA :=
  T.cal sc_is_cell S1.len fun f cdv A outer s H vs Q E hr h => by
    obtain ⟨v, P1, Pz, rfl, h, hv, q⟩ := h
    refine ⟨_, (pss_one (ps_ret (pe_and (pe_callB call_isi (by rfl) Z.isinstance (by decide +kernel) (pa_cons (pv 0) (pa_cons (pe_bltn (v := .ty "tuple") (by rfl) Z.tuple (by decide +kernel) rfl) pa_nil))) (pe_and (pe_cmpR op_eq (pe_callB call_len_seq (by rfl) Z.len (by decide +kernel) (pa_cons (pv 0) pa_nil)) pe_int (nomark _)) (pe_and (pe_cal C_is_whole (hr.mono (by decide)) (pa_cons (pe_ix ix_tup (pv 0) pe_int (fun _ _ => rfl)) pa_nil)) (pe_one (pe_cal C_is_whole (hr.mono (by decide)) (pa_cons (pe_ix ix_tup (pv 0) pe_int (fun _ _ => rfl)) pa_nil)))))))), ?_⟩
    rcases h with ⟨c, rfl, rfl⟩ | ⟨o, rfl, rfl⟩
    · refine s_ret (P := en (true && (decide ((2 : Int) = 2) && (true && true)))) (ev_andV (ev_isP (x := c) (ev_var rfl hv) (by rfl)) fun _ => ev_andV (ev_eqI (ev_lenP (x := c) rfl (ev_var rfl hv)) ev_int) fun _ => ev_andV (ev_c1 (P1 := en c.1) (ea_cons (ev_fst (ev_var rfl hv)) ea_nil) (.inl ⟨_, rfl, rfl⟩)) fun _ => ev_c1 (P1 := en c.2) (ea_cons (ev_snd (ev_var rfl hv)) ea_nil) (.inl ⟨_, rfl, rfl⟩)) fun v H1 e h => q v H1 e h
    · refine s_ret (P := en (o.isT && false)) (ev_andV (ev_isTO (ev_var rfl hv)) fun ho => ?_) fun v H1 e h => q v H1 e ?_
      · cases o with
        | tA => exact (ev_andV (a := decide ((2 : Int) = 2)) (b := false) (ev_eqI (ev_lenO rfl (ev_var (P := oe .tA) rfl hv)) ev_int) fun _ => ev_andV (a := false) (b := false) (ev_c1 (P1 := va (.str "a")) (ea_cons (ev_0O (ev_var (P := oe .tA) rfl hv)) ea_nil) (.inr ⟨rfl, rfl⟩)) fun z => by cases z)
        | n => cases ho
        | five => cases ho
        | l01 => cases ho
      · rwa [Bool.and_false] at h
/-- a pair of a cell and what is none -/
def oddP (c : Cell) (o : Oe) : Pd := ⟨fun H v => ∃ T u w, v = .ref T ∧ H T = some (.tup [u, w]) ∧ En H u c ∧ OeAt H w o, fun e ⟨T, u, w, h1, h2, h3, h4⟩ => ⟨T, u, w, h1, e _ _ h2, en_up e h3, h4.up e⟩⟩
abbrev s_is_move : Stmt := topS 23
abbrev n_is_move : List Str := ["body", "pair", "start", "end"]
theorem sc_is_move : FnScope n_is_move ["body", "pair"] (defScope s_is_move) := ⟨rfl, rfl, rfl, by decide +kernel, rfl, by decide +kernel, by decide +kernel⟩
def spIsMove : Sp := S2 fun P1 P2 Pz => ∃ b : List Cell, P1 = en b ∧ b.length ≤ 1000 ∧ ((∃ m : Cell × Cell, P2 = en m ∧ Pz = en (okMove b m.1 m.2)) ∨ ∃ (c : Cell) (o : Oe), P2 = oddP c o ∧ Pz = en false)
theorem ok_is_move (T : Txt K mg "is_move" "is_move" s_is_move ["body", "pair"]) (Z : Blt mg) (C_is_cell : Cal P w K mg base 2 "is_cell" ["value"] spIsCellA) (C_kind_of : Cal P w K mg base 9 "kind_of" ["body", "start", "end"] spKind) : Cal P w K mg base 10 "is_move" ["body", "pair"] spIsMove :=
  T.cal sc_is_move S2.len fun f cdv A outer s H vs Q E hr h => by
    obtain ⟨v1, v2, P1, P2, Pz, rfl, ⟨b, rfl, hlen, h⟩, h1, h2, q⟩ := h
    refine ⟨_, (pss_cons (ps_asg (pv 1) (pg_tup rfl (pgs_cons (pg_name (i := 2) sc_is_move.nd rfl (Or.inl rfl)) (pgs_cons (pg_name (i := 3) sc_is_move.nd rfl (Or.inl rfl)) pgs_nil))))
      (pss_one (ps_ret (pe_and (pe_cal C_is_cell (hr.mono (by decide)) (pa_cons (pv 2) pa_nil)) (pe_and (pe_cal C_is_cell (hr.mono (by decide)) (pa_cons (pv 3) pa_nil)) (pe_one (pe_cmpR op_notN (pe_cal C_kind_of (hr.mono (by decide)) (pa_cons (pv 0) (pa_cons (pv 2) (pa_cons (pv 3) pa_nil)))) pe_non (nomark _)))))))), ?_⟩
    rcases h with ⟨m, rfl, rfl⟩ | ⟨c, o, rfl, rfl⟩
    · refine q_asgP (x := m) (ev_var rfl h2) fun w1 w2 H1 e1 k1 k2 => ?_
      exact s_ret (P := en (true && (true && okMove b m.1 m.2))) (ev_andV (ev_c1 (P1 := en m.1) (ea_cons (ev_var rfl k1) ea_nil) (.inl ⟨_, rfl, rfl⟩)) fun _ => ev_andV (ev_c1 (P1 := en m.2) (ea_cons (ev_var rfl k2) ea_nil) (.inl ⟨_, rfl, rfl⟩)) fun _ => ev_notKd rfl (ev_c3 (P1 := en b) (P2 := en m.1) (P3 := en m.2) (ea_cons (ev_var rfl (en_up e1 h1)) (ea_cons (ev_var rfl k1) (ea_cons (ev_var rfl k2) ea_nil))) ⟨_, _, _, rfl, rfl, rfl, hlen, rfl⟩)) fun v H2 e2 h => q v H2 (e1.tr e2) h
    · obtain ⟨T, u, w', rfl, hT, hu, hw⟩ := h2
      refine raw_asgG ⟨.ref T, rfl, T, [u, w'], rfl, .inl (.inl hT), rfl, _, [w'], rfl, _, [], rfl, rfl, ?_⟩
      exact s_ret (P := en (true && (false && true))) (ev_andV (ev_c1 (P1 := en c) (ea_cons (ev_var rfl hu) ea_nil) (.inl ⟨_, rfl, rfl⟩)) fun _ => ev_andV (ev_c1 (P1 := oe o) (ea_cons (ev_var (P := oe o) rfl hw) ea_nil) (.inr ⟨_, rfl, rfl⟩)) fun z => by cases z) fun v H2 e2 h => q v H2 e2 h
abbrev s_walked : Stmt := topS 24
abbrev n_walked : List Str := ["body", "plan", "found", "at", "pair"]
theorem sc_walked : FnScope n_walked ["body", "plan"] (defScope s_walked) := ⟨rfl, rfl, rfl, by decide +kernel, rfl, by decide +kernel, by decide +kernel⟩
/-- where a plan goes wrong, or None -/
def FwI (b : List Cell) (plan : List (Cell × Cell)) (w : V) : Prop := (okPlan b plan = true ∧ w = .non) ∨ ∃ (i : Nat) (m : Cell × Cell), w = .int (i : Int) ∧ plan[i]? = some m ∧ okPlan b (plan.take i) = true ∧ okMove (endB b (plan.take i)) m.1 m.2 = false
/-- a tuple of pairs whose k-th has an end that is no cell, the ones ahead of it a plan -/
def OddPlan (H : Hp) (v : V) (b : List Cell) (k : Nat) : Prop := ∃ p items c w o, v = .ref p ∧ TpR it2R H p items ∧ items.length ≤ 1000 ∧ (∀ i, i < k → ∃ m, items[i]? = some (.ok m)) ∧ items[k]? = some (.odd c w) ∧ OeAt H w o ∧ ∃ pl : List (Cell × Cell), pl.length = k ∧ okPlan b pl = true ∧ ∀ i m, i < k → items[i]? = some (.ok m) → pl[i]? = some m
theorem OddPlan.up {H H' : Hp} {v : V} {b : List Cell} {k : Nat} (e : Ex H H') (h : OddPlan H v b k) : OddPlan H' v b k := by
  obtain ⟨p, items, c, w, o, h1, h2, h3, h4, h5, h6, h7⟩ := h
  exact ⟨p, items, c, w, o, h1, h2.up e, h3, h4, h5, h6.up e, h7⟩
def spWalked (W : V → V → Prop) : Sp := fun vs H Q _ => ∃ (v1 v2 : V) (b : List Cell), vs = [v1, v2] ∧ En H v1 b ∧ b.length ≤ 1000 ∧
  ((∃ plan, (li plan).p H v2 ∧ plan.length ≤ 1000 ∧ ∀ v w H', Ex H H' → FwI b plan w → W v w → (∃ T u, v = .ref T ∧ H' T = some (.tup [u, w])) → Q v H') ∨
   ∃ k : Nat, OddPlan H v2 b k ∧ ∀ v w H', Ex H H' → w = .int (k : Int) → W v w → (∃ T u, v = .ref T ∧ H' T = some (.tup [u, w])) → Q v H')
theorem spWalked_len {W : V → V → Prop} {x y : Str} : ∀ vs H Q E, spWalked W vs H Q E → vs.length = [x, y].length := fun vs H Q E ⟨_, _, _, e, _⟩ => by
  subst e
  rfl
theorem ok_walked (T : Txt K mg "walked" "walked" s_walked ["body", "plan"]) (Z : Blt mg) (C_is_move : Cal P w K mg base 10 "is_move" ["body", "pair"] spIsMove) (C_done : Cal P w K mg base 10 "done" ["body", "start", "end"] spDoneC) : Cal P w K mg base 11 "walked" ["body", "plan"] (spWalked fun _ _ => True) :=
  T.cal sc_walked spWalked_len fun f cdv A outer s H vs Q E hr h => by
    obtain ⟨v1, v2, b, rfl, h1, hlen, h⟩ := h
    rcases h with ⟨plan, ⟨a, rfl, ha⟩, hpl, q⟩ | ⟨k, ⟨p, items, c, w', o, rfl, hp, hil, hpre, hk, hw, pl, hpk, hok, hpl⟩, q⟩
    · refine ⟨_, (pss_cons (ps_set (i := 2) sc_walked.nd rfl (Or.inl rfl) (pe_lst (pa_cons (pv 0) pa_nil)))
      (pss_cons (ps_for PassesOwn.never rfl (pi_enum (by rfl) Z.enumerate (pa_cons (pv 1) pa_nil)) (pg_tup rfl (pgs_cons (pg_name (i := 3) sc_walked.nd rfl (Or.inl rfl)) (pgs_cons (pg_name (i := 4) sc_walked.nd rfl (Or.inl rfl)) pgs_nil))) (pss_cons (ps_if (pt_not (pt_val (pe_cal C_is_move (hr.mono (by decide)) (pa_cons (pe_ix ix_list (pv 2) (pe_un un_neg pe_int) (fun _ _ => rfl)) (pa_cons (pv 4) pa_nil))))) (pss_one (ps_ret (pe_tup (pa_cons (pv 2) (pa_cons (pv 3) pa_nil))))) pss_nil)
      (pss_one (ps_expr (pe_bm PySem.F.plainAttrs_list PySem.F.slot_list_append PySem.F.type_list_append mt_append (pv 2) (pa_cons (pe_cal C_done (hr.mono (by decide)) (pa_cons (pe_ix ix_list (pv 2) (pe_un un_neg pe_int) (fun _ _ => rfl)) (pa_cons (pe_ix ix_tup (pv 4) pe_int (fun _ _ => rfl)) (pa_cons (pe_ix ix_tup (pv 4) pe_int (fun _ _ => rfl)) pa_nil)))) pa_nil))))))
      (pss_one (ps_ret (pe_tup (pa_cons (pv 2) (pa_cons pe_non pa_nil))))))), ?_⟩
      refine q_asgN (xs := [b]) (en_lst (xs := [b]) (ea_cons (ev_var rfl h1) ea_nil)) fun pf H1 nf e1 hf => ?_
      have haf : a ≠ pf := ha.ne_new nf
      refine q_forE (R := enR (Cell × Cell)) (xs := plan) [pf] (ls_lsR (ha.up e1)) (ev_vr rfl) (mem1 haf) (fun b hb => by
        obtain ⟨us, q, _⟩ := hf
        rw [List.mem_singleton.mp hb]
        exact ⟨us, q⟩) fun H2 e2 => ⟨fun i s' H' => ∃ u3 u4, s' = [some v1, some (.ref a), some (.ref pf), u3, u4] ∧ Mv [pf] H2 H' ∧ okPlan b (plan.take i) = true ∧ Ls H' pf (bods b (plan.take i)), ⟨_, _, rfl, Mv.same, rfl, hf.up e2⟩, fun i s' H' ⟨_, _, _, mm, _⟩ => mm, fun i m vp s' H' H'' hm hvp e'' ⟨u3, u4, es, mm, hok, hpi⟩ => ?_, fun s' H' ⟨u3, u4, es, mm, hok, hpi⟩ => ?_⟩
      · subst es
        have hvp : En H'' vp m := hvp
        have hE : Ex H H'' := ((e1.tr e2).mv mm (no1 nf)).tr e''
        have heL : (endB b (plan.take i)).length ≤ 1000 := Nat.le_trans (endB_len hok) hlen
        have hpi' := hpi.up e''
        refine q_ifN (b := !okMove (endB b (plan.take i)) m.1 m.2) (eb_not (eb_B (ev_c2 (P1 := en (endB b (plan.take i))) (P2 := en m) (ea_cons (ev_ixL (ev_li rfl hpi') (ev_neg (i := 1) ev_int) (bods_at b _)) (ea_cons (ev_var rfl hvp) ea_nil)) ⟨_, rfl, heL, .inl ⟨m, rfl, rfl⟩⟩))) (fun hb H3 e3 => ?_) fun hb H3 e3 => ?_
        · have hbad : okMove (endB b (plan.take i)) m.1 m.2 = false := by simpa using hb
          refine s_ret (ev_prP (P1 := li (bods b (plan.take i))) (P2 := en (i : Int)) (ev_li rfl (hpi'.up e3)) (ev_var rfl rfl)) fun v H4 e4 hv => ?_
          obtain ⟨T, x, y, rfl, hT, _, hy⟩ := hv
          obtain rfl : y = .int (i : Int) := hy
          exact q _ _ H4 ((hE.tr e3).tr e4) (.inr ⟨i, m, rfl, hm, hok, hbad⟩) trivial ⟨T, x, rfl, hT⟩
        · have hgood : okMove (endB b (plan.take i)) m.1 m.2 = true := by simpa using hb
          refine s_app' (x := endB b (plan.take (i + 1))) (hpi'.up e3) (ev_vr rfl) ?_ (by
            rw [bods_len]
            have := List.length_take_le' i plan
            omega) fun H5 e5 H6 b6 hp6 => ⟨_, _, rfl, (((mm.ex e'').ex e3).ex e5).but b6 (.inl List.mem_cons_self), ?_, ?_⟩
          · rw [take_snoc hm, endB_snoc]
            exact ev_c3 (P1 := en (endB b (plan.take i))) (P2 := en m.1) (P3 := en m.2) (ea_cons (ev_ixL (ev_li rfl (hpi'.up e3)) (ev_neg (i := 1) ev_int) (bods_at b _)) (ea_cons (ev_fst (ev_var rfl (en_up e3 hvp))) (ea_cons (ev_snd (ev_var rfl (en_up e3 hvp))) ea_nil))) ⟨_, _, _, rfl, rfl, rfl, heL, hgood, rfl⟩
          · rw [take_snoc hm, okPlan_snoc, hok, hgood]
            rfl
          · rw [take_snoc hm] at hp6 ⊢
            rw [bods_snoc]
            exact hp6
      · subst es
        have hE : Ex H H' := (e1.tr e2).mv mm (no1 nf)
        rw [List.take_length] at hok hpi
        refine s_ret (ev_prP (P1 := li (bods b plan)) (P2 := nn) (ev_li rfl hpi) ev_non) fun v H5 e5 hv => ?_
        obtain ⟨T, x, y, rfl, hT, _, hy⟩ := hv
        obtain rfl : y = .non := hy
        exact q _ _ H5 (hE.tr e5) (.inl ⟨hok, rfl⟩) trivial ⟨T, x, rfl, hT⟩
    · refine ⟨_, (pss_cons (ps_set (i := 2) sc_walked.nd rfl (Or.inl rfl) (pe_lst (pa_cons (pv 0) pa_nil)))
      (pss_cons (ps_for PassesOwn.never rfl (pi_enumT (by rfl) Z.enumerate (pa_cons (pv 1) pa_nil)) (pg_tup rfl (pgs_cons (pg_name (i := 3) sc_walked.nd rfl (Or.inl rfl)) (pgs_cons (pg_name (i := 4) sc_walked.nd rfl (Or.inl rfl)) pgs_nil))) (pss_cons (ps_if (pt_not (pt_val (pe_cal C_is_move (hr.mono (by decide)) (pa_cons (pe_ix ix_list (pv 2) (pe_un un_neg pe_int) (fun _ _ => rfl)) (pa_cons (pv 4) pa_nil))))) (pss_one (ps_ret (pe_tup (pa_cons (pv 2) (pa_cons (pv 3) pa_nil))))) pss_nil)
      (pss_one (ps_expr (pe_bm PySem.F.plainAttrs_list PySem.F.slot_list_append PySem.F.type_list_append mt_append (pv 2) (pa_cons (pe_cal C_done (hr.mono (by decide)) (pa_cons (pe_ix ix_list (pv 2) (pe_un un_neg pe_int) (fun _ _ => rfl)) (pa_cons (pe_ix ix_tup (pv 4) pe_int (fun _ _ => rfl)) (pa_cons (pe_ix ix_tup (pv 4) pe_int (fun _ _ => rfl)) pa_nil)))) pa_nil))))))
      (pss_one (ps_ret (pe_tup (pa_cons (pv 2) (pa_cons pe_non pa_nil))))))), ?_⟩
      refine q_asgN (xs := [b]) (en_lst (xs := [b]) (ea_cons (ev_var rfl h1) ea_nil)) fun pf H1 nf e1 hf => ?_
      have hpf : p ≠ pf := by
        obtain ⟨us, hus, _⟩ := hp
        exact ne_of_none hus nf
      refine q_forET (R := it2R) (xs := items) [pf] (hp.up e1) (ev_vr rfl) (mem1 hpf) (fun b hb => by
        obtain ⟨us, q, _⟩ := hf
        rw [List.mem_singleton.mp hb]
        exact ⟨us, q⟩) fun H2 e2 => ⟨fun i s' H' => ∃ u3 u4, s' = [some v1, some (.ref p), some (.ref pf), u3, u4] ∧ Mv [pf] H2 H' ∧ i ≤ k ∧ Ls H' pf (bods b (pl.take i)), ⟨_, _, rfl, Mv.same, Nat.zero_le _, hf.up e2⟩, fun i s' H' ⟨_, _, _, mm, _⟩ => mm, fun i x vp s' H' H'' hx hvp e'' ⟨u3, u4, es, mm, hik, hpi⟩ => ?_, fun s' H' ⟨u3, u4, es, mm, hik, hpi⟩ => ?_⟩
      · subst es
        have hE : Ex H H'' := ((e1.tr e2).mv mm (no1 nf)).tr e''
        have hokt : okPlan b (pl.take i) = true := okPlan_pre hok i
        have heL : (endB b (pl.take i)).length ≤ 1000 := Nat.le_trans (endB_len hokt) hlen
        have hpi' := hpi.up e''
        by_cases hlt : i < k
        · obtain ⟨m, hm'⟩ := hpre i hlt
          rw [hm'] at hx
          obtain rfl : It2.ok m = x := Option.some.inj hx
          have hvp : En H'' vp m := hvp
          have hm : pl[i]? = some m := hpl i m hlt hm'
          have hgood : okMove (endB b (pl.take i)) m.1 m.2 = true := okPlan_at hok hm
          refine q_ifN (b := !okMove (endB b (pl.take i)) m.1 m.2) (eb_not (eb_B (ev_c2 (P1 := en (endB b (pl.take i))) (P2 := en m) (ea_cons (ev_ixL (ev_li rfl hpi') (ev_neg (i := 1) ev_int) (bods_at b _)) (ea_cons (ev_var rfl hvp) ea_nil)) ⟨_, rfl, heL, .inl ⟨m, rfl, rfl⟩⟩))) (fun hb H3 e3 => ?_) fun hb H3 e3 => ?_
          · rw [hgood] at hb
            cases hb
          · refine s_app' (x := endB b (pl.take (i + 1))) (hpi'.up e3) (ev_vr rfl) ?_ (by
              rw [bods_len]
              have := List.length_take_le' i pl
              have := (List.getElem?_eq_some_iff.mp hk).1
              omega) fun H5 e5 H6 b6 hp6 => ⟨_, _, rfl, (((mm.ex e'').ex e3).ex e5).but b6 (.inl List.mem_cons_self), hlt, ?_⟩
            · rw [take_snoc hm, endB_snoc]
              exact ev_c3 (P1 := en (endB b (pl.take i))) (P2 := en m.1) (P3 := en m.2) (ea_cons (ev_ixL (ev_li rfl (hpi'.up e3)) (ev_neg (i := 1) ev_int) (bods_at b _)) (ea_cons (ev_fst (ev_var rfl (en_up e3 hvp))) (ea_cons (ev_snd (ev_var rfl (en_up e3 hvp))) ea_nil))) ⟨_, _, _, rfl, rfl, rfl, heL, hgood, rfl⟩
            · rw [take_snoc hm] at hp6 ⊢
              rw [bods_snoc]
              exact hp6
        · obtain rfl : i = k := by omega
          rw [hk] at hx
          obtain rfl : It2.odd c w' = x := Option.some.inj hx
          obtain ⟨T, u, rfl, hT, hu⟩ := hvp
          have hw'' : OeAt H'' w' o := hw.up hE
          refine q_ifN (b := !false) (eb_not (eb_B (ev_c2 (P1 := en (endB b (pl.take i))) (P2 := oddP c o) (ea_cons (ev_ixL (ev_li rfl hpi') (ev_neg (i := 1) ev_int) (bods_at b _)) (ea_cons (ev_var (P := oddP c o) rfl ⟨T, u, w', rfl, hT, hu, hw''⟩) ea_nil)) ⟨_, rfl, heL, .inr ⟨c, o, rfl, rfl⟩⟩))) (fun hb H3 e3 => ?_) fun hb H3 e3 => by cases hb
          refine s_ret (ev_prP (P1 := li (bods b (pl.take i))) (P2 := en (i : Int)) (ev_li rfl (hpi'.up e3)) (ev_var rfl rfl)) fun v H4 e4 hv => ?_
          obtain ⟨T, x, y, rfl, hT, _, hy⟩ := hv
          obtain rfl : y = .int (i : Int) := hy
          exact q _ _ H4 ((hE.tr e3).tr e4) rfl trivial ⟨T, x, rfl, hT⟩
      · have := (List.getElem?_eq_some_iff.mp hk).1
        omega
abbrev s_first_wrong : Stmt := topS 25
abbrev n_first_wrong : List Str := ["body", "plan"]
theorem sc_first_wrong : FnScope n_first_wrong ["body", "plan"] (defScope s_first_wrong) := ⟨rfl, rfl, rfl, by decide +kernel, rfl, by decide +kernel, by decide +kernel⟩
def spFirstWrongC : Sp := fun vs H Q _ => ∃ (v1 v2 : V) (b : List Cell), vs = [v1, v2] ∧ En H v1 b ∧ b.length ≤ 1000 ∧
  ((∃ plan, (li plan).p H v2 ∧ plan.length ≤ 1000 ∧ ∀ w H', Ex H H' → FwI b plan w → Q w H') ∨ ∃ k : Nat, OddPlan H v2 b k ∧ ∀ H', Ex H H' → Q (.int (k : Int)) H')
theorem spFirstWrongC_len {x y : Str} : ∀ vs H Q E, spFirstWrongC vs H Q E → vs.length = [x, y].length := fun vs H Q E ⟨_, _, _, e, _⟩ => by
  subst e
  rfl
theorem ok_first_wrong (T : Txt K mg "first_wrong" "first_wrong" s_first_wrong ["body", "plan"]) (Z : Blt mg) (C_walked : Cal P w K mg base 11 "walked" ["body", "plan"] (spWalked fun _ _ => True)) : Cal P w K mg base 12 "first_wrong" ["body", "plan"] spFirstWrongC :=
  T.cal sc_first_wrong spFirstWrongC_len fun f cdv A outer s H vs Q E hr h => by
    obtain ⟨v1, v2, b, rfl, h1, hlen, h⟩ := h
    refine ⟨_, (pss_one (ps_ret (pe_ix ix_tup (pe_cal C_walked (hr.mono (by decide)) (pa_cons (pv 0) (pa_cons (pv 1) pa_nil))) pe_int (fun _ _ => rfl)))), ?_⟩
    rcases h with ⟨plan, hp, hpl, q⟩ | ⟨k, ho, q⟩
    · exact raw_ret (raw_op (raw_call (raw_cons ⟨v1, rfl, raw_cons ⟨v2, rfl, ⟨v1, v2, b, rfl, h1, hlen, .inl ⟨plan, hp, hpl, fun v w H' e hw _ ⟨T, u, ev, hT⟩ => raw_c ⟨T, [u, w], 1, w, ev, rfl, .inl (.inl hT), rfl, q w H' e hw⟩⟩⟩⟩⟩)))
    · exact raw_ret (raw_op (raw_call (raw_cons ⟨v1, rfl, raw_cons ⟨v2, rfl, ⟨v1, v2, b, rfl, h1, hlen, .inr ⟨k, ho, fun v w H' e hw _ ⟨T, u, ev, hT⟩ => raw_c ⟨T, [u, w], 1, w, ev, rfl, .inl (.inl hT), rfl, by rw [hw]; exact q H' e⟩⟩⟩⟩⟩)))
end
end TB
set_option Elab.async false
set_option linter.all false
set_option maxRecDepth 100000
set_option maxHeartbeats 4000000
/-! D84: steps_of. -/
namespace TB
open PySem PySem.Spec PyProof.Rows L2
section
variable {K : PySem.W.Frag} {s : TSt} {H : Hp} {ta te : TE} {D : Ends} {u : TS} {α : Type} {R : Rl α} {CT CB CN : Addr}
theorem q_appR {l : Addr} {xs : List α} {x : α} (hl : LsR R H l xs) (ha : EvP ta s H (va (.ref l))) (h : EvP te s H (rp R x)) (hz : xs.length < 1000000) (k : ∀ H1, Ex H H1 → ∀ H2, Bt l H1 H2 → LsR R H2 l (xs ++ [x]) → u D s H2) :
    tSeq (tDrop (tBM K "list" rAppend ta (tCons te tNil))) u D s H := ha H Ex.same _ fun v H1 e1 hv => by
  obtain rfl : v = .ref l := hv
  obtain ⟨us0, g0, _⟩ := hl.up e1
  refine ⟨.inl ⟨rfl, us0, .inl (.inl g0)⟩, h H1 e1 _ fun w H2 e2 hw => ?_⟩
  obtain ⟨us, g1, g2⟩ := hl.up (e1.tr e2)
  have bt : Bt l H2 (upd H2 l (.lst (us ++ [w]))) := ⟨Tu.mutL g1, fun q hq => upd_ne hq⟩
  exact ⟨l, us, w, rfl, rfl, g1, by rw [g2.length]; exact sz_lt (Nat.le_of_lt hz), k H2 (e1.tr e2) _ bt ⟨_, upd_same, paired_app (paired_map g2 fun _ _ z => R.bt g1 bt z) (.cons (R.bt g1 bt hw) .nil)⟩⟩
theorem ev_notInt {i : Int} {r : R2} (hr : r = fun x y H Q => y = .non ∧ Q (.bl (!decide (x = .non))) H) (ha : EvP ta s H (en i)) : EvP (tOp r ta (tC .non)) s H (en true) := fun H1 e Q q =>
  ha H1 e _ fun v H2 e2 hv => by
    subst hr
    obtain rfl : v = .int i := hv
    exact ⟨rfl, q _ H2 e2 rfl⟩
/-- the told witness, asked of the code -/
theorem ev_witC {b : List Cell} {c : Cell} {ws : List Cell} {E : L2.St → XK} {t : TA} (h : EvA t s H [en b, en c]) (hl : b.length ≤ 1000) (hc : c ∈ b) (hh : Hang (rest b c)) (hz : ∃ z, z ∈ nbs c ∧ z ∈ b) (hw : WitOf b c ws) : EvP (tCallS (spWitnessC CT CB) E t) s H (en ws) := fun H1 e Q q =>
  h H1 e _ fun vs H2 e2 hvs => by
    obtain ⟨v, w, rfl, hv, hw'⟩ := al2 hvs
    exact ⟨v, w, b, c, rfl, hv, hw', hl, .inl ⟨hc, hh, hz, fun ws' u H' hws e3 hu => q u H' (e2.tr e3) (by rw [hw.one hws]; exact hu)⟩⟩
/-- NotKept("..", v), raised -/
theorem nk_raise {x : Str} {v : V} {i : Nat} {E : Value → Option Addr → Hp → Prop} (hv : s[i]? = some (some v)) (k : ∀ d H', Ex H H' → H' d = some (.xd [("witness", v), ("promise", .str x)]) → E (.ref CN) (some d) H') :
    tMkO CN (spNkInit CN) [] (tCons (tC (.str x)) (tCons (tVar i) tNil)) s H E := by
  refine raw_cons (raw_c (raw_cons ⟨v, hv, ⟨Nat.le_of_ble_eq_true rfl, fun a na => ⟨a, .str x, v, rfl, upd_same, fun dx ndx nda => ⟨rfl, dx, [("witness", v), ("promise", .str x)], ?_, upd_same, ?_, ?_⟩⟩⟩⟩))
  · rw [upd_ne (Ne.symm nda)]
    exact upd_same
  · rw [upd_ne nda] at ndx
    exact ndx
  · rw [upd_ne nda] at ndx
    refine k dx _ (fun b o hbo => ?_) upd_same
    have n1 : b ≠ a := fun z => by rw [z, na] at hbo; cases hbo
    have n2 : b ≠ dx := fun z => by rw [z, ndx] at hbo; cases hbo
    rw [upd_ne n2, del_ne n1, upd_ne n2, upd_ne n1, upd_ne n2, upd_ne n1]
    exact hbo
end
/-- the first wrong one is one -/
theorem fwI_ok {b : List Cell} {plan : List (Cell × Cell)} {w : V} (h : FwI b plan w) (hok : okPlan b plan = true) : w = .non := by
  rcases h with ⟨_, e⟩ | ⟨i, m, _, hm, _, hbad⟩
  · exact e
  · rw [okPlan_at hok hm] at hbad
    cases hbad
theorem fwI_at {b : List Cell} {plan : List (Cell × Cell)} {w : V} {i : Nat} {m : Cell × Cell} (h : FwI b plan w) (hm : plan[i]? = some m) (hok : okPlan b (plan.take i) = true) (hbad : okMove (endB b (plan.take i)) m.1 m.2 = false) : w = .int (i : Int) := by
  have key : ∀ {i j : Nat} {m : Cell × Cell}, plan[i]? = some m → okMove (endB b (plan.take i)) m.1 m.2 = false → okPlan b (plan.take j) = true → ¬ i < j := fun {i j m} h1 h2 h3 hij => by
    have h4 : (plan.take j)[i]? = some m := by rw [List.getElem?_take, if_pos hij]; exact h1
    have h5 := okPlan_at h3 h4
    rw [List.take_take, Nat.min_eq_left (Nat.le_of_lt hij)] at h5
    rw [h5] at h2
    cases h2
  rcases h with ⟨h, _⟩ | ⟨i', m', e, hm', hok', hbad'⟩
  · rw [okPlan_at h hm] at hbad
    cases hbad
  · have h1 := key hm hbad hok'
    have h2 := key hm' hbad' hok
    have : i = i' := by omega
    rw [e, this]
section
variable {P : Program} {w : World} {K : PySem.W.Frag} {mg : Str → Option Value} {base : Heap} {C CT CB CN : Addr}
abbrev s_steps_of : Stmt := topS 33
abbrev n_steps_of : List Str := ["body", "plan", "wrong", "found", "here", "start", "end", "support"]
theorem sc_steps_of : FnScope n_steps_of ["body", "plan"] (defScope s_steps_of) := ⟨rfl, rfl, rfl, by decide +kernel, rfl, by decide +kernel, by decide +kernel⟩
def spStepsOf (C CN : Addr) : Sp := fun vs H Q E => ∃ (v1 v2 : V) (b : List Cell), vs = [v1, v2] ∧ En H v1 b ∧ b.length ≤ 1000 ∧ Hang b ∧
  ((∃ plan ps, (li plan).p H v2 ∧ plan.length ≤ 100 ∧ okPlan b plan = true ∧ PapX b plan ps ∧ ∀ u H', Ex H H' → (tr (stR C) ps).p H' u → Q u H') ∨
   (∃ plan, ∃ (i : Nat) (m : Cell × Cell), (li plan).p H v2 ∧ plan.length ≤ 100 ∧ plan[i]? = some m ∧ okPlan b (plan.take i) = true ∧ okMove (endB b (plan.take i)) m.1 m.2 = false ∧ ∀ d H', Ex H H' → H' d = some (.xd [("witness", .int (i : Int)), ("promise", .str "plan")]) → E (.ref CN) (some d) H') ∨
   ∃ k : Nat, OddPlan H v2 b k ∧ ∀ d H', Ex H H' → H' d = some (.xd [("witness", .int (k : Int)), ("promise", .str "plan")]) → E (.ref CN) (some d) H')
theorem spStepsOf_len {C CN : Addr} {x y : Str} : ∀ vs H Q E, spStepsOf C CN vs H Q E → vs.length = [x, y].length := fun vs H Q E ⟨_, _, _, e, _⟩ => by
  subst e
  rfl
theorem ok_steps_of (T : Txt K mg "steps_of" "steps_of" s_steps_of ["body", "plan"]) (Z : Blt mg) (N_NotKept : NkM P w K mg base CN) (M_Step : StepM P w K mg base C) (C_first_wrong : Cal P w K mg base 12 "first_wrong" ["body", "plan"] spFirstWrongC) (C_supports_of : Cal P w K mg base 1 "supports_of" ["squares", "start", "end"] spSupportsC)
    (C_squares_of : Cal P w K mg base 1 "squares_of" ["body"] spSquares) (C_witness_of : CalX P w K mg base 8 "witness_of" ["body", "start"] (spWitnessC CT CB)) (C_done : Cal P w K mg base 10 "done" ["body", "start", "end"] spDoneC) : CalX P w K mg base 13 "steps_of" ["body", "plan"] (spStepsOf C CN) :=
  T.calX sc_steps_of spStepsOf_len fun f cdv A outer s H vs Q E hr h => by
    obtain ⟨v1, v2, b, rfl, h1, hlen, hang, h⟩ := h
    refine ⟨_, (pss_cons (ps_set (i := 2) sc_steps_of.nd rfl (Or.inl rfl) (pe_cal C_first_wrong (hr.mono (by decide)) (pa_cons (pv 0) (pa_cons (pv 1) pa_nil))))
      (pss_cons (ps_if (pt_cmpR op_notN (pv 2) pe_non (nomark _)) (pss_one (ps_raise rfl (takes_of rfl rfl rfl rfl) (pmk_nk N_NotKept (hr.mono (by decide)) (pa_cons pe_str (pa_cons (pv 2) pa_nil))))) pss_nil)
      (pss_cons (ps_par (i := 3) (j := 4) rfl sc_steps_of.nd rfl rfl (by decide) rfl rfl (pa_cons (pe_lst pa_nil) (pa_cons (pv 0) pa_nil)) (by rfl))
      (pss_cons (ps_for (passes_of rfl) rfl (pi_list (pv 1)) (pg_tup rfl (pgs_cons (pg_name (i := 5) sc_steps_of.nd rfl (Or.inl rfl)) (pgs_cons (pg_name (i := 6) sc_steps_of.nd rfl (Or.inl rfl)) pgs_nil))) (pss_cons (ps_set (i := 7) sc_steps_of.nd rfl (Or.inl rfl) (pe_ix ix_tup (pe_cal C_supports_of (hr.mono (by decide)) (pa_cons (pe_cal C_squares_of (hr.mono (by decide)) (pa_cons (pv 4) pa_nil)) (pa_cons (pv 5) (pa_cons (pv 6) pa_nil)))) pe_int (fun _ _ => rfl)))
      (pss_cons (ps_expr (pe_bm PySem.F.plainAttrs_list PySem.F.slot_list_append PySem.F.type_list_append mt_append (pv 3) (pa_cons (pe_mk M_Step (hr.mono (by decide)) (pa_cons (pv 5) (pa_cons (pv 6) (pa_cons (pv 7) (pa_cons (pe_calX C_witness_of (hr.mono (by decide)) (fun σ => passAt (takes_of rfl rfl rfl rfl) σ) (pa_cons (pv 4) (pa_cons (pv 5) pa_nil))) pa_nil))))) pa_nil)))
      (pss_one (ps_set (i := 4) sc_steps_of.nd rfl (Or.inl rfl) (pe_cal C_done (hr.mono (by decide)) (pa_cons (pv 4) (pa_cons (pv 5) (pa_cons (pv 6) pa_nil)))))))))
      (pss_one (ps_ret (pe_callTy call_tuple_of (by rfl) Z.tuple (by decide +kernel) (pa_cons (pv 3) pa_nil)))))))), ?_⟩
    rcases h with ⟨plan, ps, hp, hpl, hok, hpx, q⟩ | ⟨plan, i, m, hp, hpl, hm, hok, hbad, qE⟩ | ⟨k, ho, qE⟩
    · refine raw_asgG (raw_call (raw_cons ⟨v1, rfl, raw_cons ⟨v2, rfl, ⟨v1, v2, b, rfl, h1, hlen, .inl ⟨plan, hp, by omega, fun w1 H1 e1 hw => ?_⟩⟩⟩⟩))
      obtain rfl := fwI_ok hw hok
      refine q_ifN (b := false) (eb_test (ev_notNn rfl (ev_var (P := nn) rfl rfl))) (fun hb => by cases hb) fun _ H2 e2 => ?_
      have e02 := e1.tr e2
      obtain ⟨a, rfl, ha⟩ := hp
      refine q_parWP (P1 := li ([] : List Paper)) (P2 := en b) (en_nil (α := Paper)).w (ev_var rfl (en_up e02 h1)) fun pf vh H3 nf e3 hf hvh => ?_
      have hf0 : LsR (stR C) H3 pf (ps.take 0) := by
        obtain ⟨us, g1, g2⟩ := li_at hf
        cases g2
        exact ⟨[], g1, .nil⟩
      have e03 := e02.tr e3
      have haf : a ≠ pf := (ha.up e02).ne_new nf
      refine q_forA [pf] (ha.up e03) (ev_vr rfl) (mem1 haf) fun H4 e4 => ⟨fun i s' H' => ∃ vh u5 u6 u7, s' = [some v1, some (.ref a), some .non, some (.ref pf), some vh, u5, u6, u7] ∧ Mv [pf] H4 H' ∧ En H' vh (endB b (plan.take i)) ∧ LsR (stR C) H' pf (ps.take i),
        ⟨vh, _, _, _, rfl, Mv.same, en_up e4 hvh, hf0.up e4⟩, fun i s' H' ⟨_, _, _, _, _, mm, _⟩ => mm, fun i m v s' H' hm hv ⟨vh, u5, u6, u7, es, mm, hvh, hst⟩ => ?_, fun s' H' ⟨vh, u5, u6, u7, es, mm, hvh, hst⟩ => ?_⟩
      · subst es
        refine g_pair hv fun w1 w2 k1 k2 => ?_
        have hil : i < ps.length := by
          have := (List.getElem?_eq_some_iff.mp hm).1
          have := hpx.1
          omega
        have hpi : ps[i]? = some ps[i] := List.getElem?_eq_getElem hil
        obtain ⟨a1, a2, ⟨r, a3⟩, a4⟩ := hpx.2 i m _ hm hpi
        have hokt := okPlan_pre hok i
        have hel : (endB b (plan.take i)).length ≤ 1000 := Nat.le_trans (endB_len hokt) hlen
        have hgood := okPlan_at hok hm
        obtain ⟨_, hfree⟩ := okMove_iff.mp hgood
        have hin := (okMove_in hgood).1
        have hnr := near_ex (endB_hang hang hokt) hin hfree
        generalize ps[i] = p at hpi a1 a2 a3 a4
        refine q_asg (P := en p.sup) (ev_ixT (xs := p.sup :: r) (i := 0) ?_ ev_int (atI_nat (j := 0) rfl)) fun v7 H5 e5 hv7 => ?_
        · refine (ev_c3 (P1 := ds (dall (endB b (plan.take i)))) (P2 := en m.1) (P3 := en m.2) (ea_cons (ew_c1 (P1 := en (endB b (plan.take i))) (ea_cons (ev_var rfl hvh) ea_nil) ⟨_, .inl rfl, hel, rfl⟩).p (ea_cons (ev_var rfl k1) (ea_cons (ev_var rfl k2) ea_nil))) ⟨_, _, _, rfl, rfl, rfl, ?_⟩)
          rw [dall_in, a3]
        · have hvh5 := en_up e5 hvh
          have k15 : En H5 w1 p.s := by
            rw [a1]
            exact en_up e5 k1
          have k25 : En H5 w2 p.e := by
            rw [a2]
            exact en_up e5 k2
          refine q_appR (x := p) (hst.up e5) (ev_vr rfl) ((ev_mk (C := C) (p := p) (ea_cons (ev_var rfl k15) (ea_cons (ev_var rfl k25) (ea_cons (ev_var rfl hv7) (ea_cons (ev_witC (b := endB b (plan.take i)) (c := m.1) (ea_cons (ev_var rfl hvh5) (ea_cons (ev_var rfl (en_up e5 k1)) ea_nil)) hel hin hfree hnr a4) ea_nil))))).to fun _ _ h => h) (by
            have := List.length_take_le' i ps
            have := hpx.1
            omega) fun H6 e6 H7 b7 hst7 => ?_
          refine s_asg (P := en (done (endB b (plan.take i)) m.1 m.2)) (ev_c3 (P1 := en (endB b (plan.take i))) (P2 := en m.1) (P3 := en m.2) (ea_cons (ev_var rfl (Enc.mono b7.tu (en_up (e5.tr e6) hvh))) (ea_cons (ev_var rfl (Enc.mono b7.tu (en_up (e5.tr e6) k1))) (ea_cons (ev_var rfl (Enc.mono b7.tu (en_up (e5.tr e6) k2))) ea_nil))) ⟨_, _, _, rfl, rfl, rfl, hel, hgood, rfl⟩) fun v8 H8 e8 hv8 => ⟨_, _, _, _, rfl, (((mm.ex e5).ex e6).but b7 (.inl List.mem_cons_self)).ex e8, ?_, ?_⟩
          · rw [take_snoc hm, endB_snoc]
            exact hv8
          · rw [take_snoc hpi]
            exact hst7.up e8
      · subst es
        have hE : Ex H H' := (e03.tr e4).mv mm (no1 (e02.back nf))
        rw [← hpx.1, List.take_length] at hst
        exact s_ret (P := tr (stR C) ps) (ev_tupleR rfl (ev_var rfl ⟨pf, rfl, hst⟩)) fun v H9 e9 hv => q v H9 (hE.tr e9) hv
    · refine raw_asgG (raw_call (raw_cons ⟨v1, rfl, raw_cons ⟨v2, rfl, ⟨v1, v2, b, rfl, h1, hlen, .inl ⟨plan, hp, by omega, fun w1 H1 e1 hw => ?_⟩⟩⟩⟩))
      obtain rfl := fwI_at hw hm hok hbad
      exact q_ifN (b := true) (eb_test (ev_notInt (i := (i : Int)) rfl (ev_var rfl rfl))) (fun _ H2 e2 => nk_raise (v := .int (i : Int)) rfl fun d H' e hd => qE d H' ((e1.tr e2).tr e) hd) fun hb => by cases hb
    · refine raw_asgG (raw_call (raw_cons ⟨v1, rfl, raw_cons ⟨v2, rfl, ⟨v1, v2, b, rfl, h1, hlen, .inr ⟨k, ho, fun H1 e1 => ?_⟩⟩⟩⟩))
      exact q_ifN (b := true) (eb_test (ev_notInt (i := (k : Int)) rfl (ev_var rfl rfl))) (fun _ H2 e2 => nk_raise (v := .int (k : Int)) rfl fun d H' e hd => qE d H' ((e1.tr e2).tr e) hd) fun hb => by cases hb
end
end TB
set_option Elab.async false
set_option linter.all false
set_option maxRecDepth 100000
set_option maxHeartbeats 4000000
/-! D85: what was asked, what is due, what steps_of tells. -/
namespace TB
open PySem PySem.Spec PyProof.Rows L2
/-- what is told of a square: ("there", c), ("told", its witness), ("body", the others) -/
def AW (b : List Cell) (c : Cell) (H : Hp) (v : V) : Prop := ∃ T x u, v = .ref T ∧ H T = some (.tup [.str x, u]) ∧
  ((c ∉ b ∧ x = "there" ∧ En H u c) ∨ (c ∈ b ∧ Hang (rest b c) ∧ x = "told" ∧ ∃ ws, WitOf b c ws ∧ En H u ws) ∨ (c ∈ b ∧ ¬ Hang (rest b c) ∧ x = "body" ∧ En H u (rest b c)))
theorem AW.up {b : List Cell} {c : Cell} {H H' : Hp} {v : V} (e : Ex H H') (h : AW b c H v) : AW b c H' v := by
  obtain ⟨T, x, u, h1, h2, h3⟩ := h
  refine ⟨T, x, u, h1, e _ _ h2, ?_⟩
  rcases h3 with ⟨a, b, c⟩ | ⟨a, b, c, ws, d, f⟩ | ⟨a, b, c, d⟩
  · exact .inl ⟨a, b, en_up e c⟩
  · exact .inr (.inl ⟨a, b, c, ws, d, en_up e f⟩)
  · exact .inr (.inr ⟨a, b, c, en_up e d⟩)
def aw (b : List Cell) (c : Cell) : Pd := ⟨fun H v => AW b c H v, fun e h => h.up e⟩
/-- ("told", papers) -/
def tlp (xs : List Paper) : Pd := ⟨fun H v => ∃ T p, v = .ref T ∧ H T = some (.tup [.str "told", .ref p]) ∧ Ls H p xs, fun e ⟨T, p, h1, h2, h3⟩ => ⟨T, p, h1, e _ _ h2, h3.up e⟩⟩
/-- ("not", "plan", i) -/
def npP (i : Int) : Pd := ⟨fun H v => ∃ T, v = .ref T ∧ H T = some (.tup [.str "not", .str "plan", .int i]), fun e ⟨T, h1, h2⟩ => ⟨T, h1, e _ _ h2⟩⟩
section
variable {K : PySem.W.Frag} {s : TSt} {H : Hp} {ta tb te : TE}
theorem shaped2 {α : Type} [DecidableEq α] [Enc α] {x : Str} {y : α} (hx : (PyData.str x).canLay0 = true) (hd : Enc.dep α ≤ 40) : SeqAt.shaped (.tuple [.str x, Enc.d y]) = true := by
  have h1 : (Enc.d y).depth ≤ Enc.dep α := Enc.dle y
  show (PyData.canLay0 _ && decide (PyData.depth _ ≤ 64)) = true
  rw [Bool.and_eq_true]
  refine ⟨by simp only [PyData.canLay0, PyData.canLayAll0, Enc.lay, Bool.and_true] at hx ⊢; exact hx, decide_eq_true ?_⟩
  simp only [PyData.depth, PyData.depthAll]
  omega
theorem eqv2 {α : Type} [DecidableEq α] [Enc α] {x : Str} {y : α} : PyData.eqv (.tuple [.str x, Enc.d y]) (.tuple [.str x, Enc.d y]) = true := by
  simp [PyData.eqv, PyData.eqvAll, Enc.inj]
theorem aw_one {b : List Cell} {c : Cell} {H H' : Hp} {v w : V} (h : AW b c H v) (h' : AW b c H' w) : ∃ d, Dp K H v d ∧ Dp K H' w d ∧ SeqAt.shaped d = true ∧ PyData.eqv d d = true := by
  obtain ⟨T, x, u, rfl, h2, h3⟩ := h
  obtain ⟨T', x', u', rfl, g2, g3⟩ := h'
  rcases h3 with ⟨a1, rfl, a3⟩ | ⟨a1, a2, rfl, ws, a4, a5⟩ | ⟨a1, a2, rfl, a4⟩
  · rcases g3 with ⟨b1, rfl, b3⟩ | ⟨b1, _⟩ | ⟨b1, _⟩
    · exact ⟨.tuple [.str "there", Enc.d c], .tup (.inl (.inl h2)) (.cons (.str _) (.cons (Enc.dp K a3) .nil)), .tup (.inl (.inl g2)) (.cons (.str _) (.cons (Enc.dp K b3) .nil)), shaped2 (by decide +kernel) (by decide), eqv2⟩
    · exact absurd b1 a1
    · exact absurd b1 a1
  · rcases g3 with ⟨b1, _⟩ | ⟨b1, b2, rfl, ws', b4, b5⟩ | ⟨_, b2, _⟩
    · exact absurd a1 b1
    · obtain rfl := a4.one b4
      exact ⟨.tuple [.str "told", Enc.d ws], .tup (.inl (.inl h2)) (.cons (.str _) (.cons (Enc.dp K a5) .nil)), .tup (.inl (.inl g2)) (.cons (.str _) (.cons (Enc.dp K b5) .nil)), shaped2 (by decide +kernel) (by decide), eqv2⟩
    · exact absurd a2 b2
  · rcases g3 with ⟨b1, _⟩ | ⟨_, b2, _⟩ | ⟨b1, b2, rfl, b4⟩
    · exact absurd a1 b1
    · exact absurd b2 a2
    · exact ⟨.tuple [.str "body", Enc.d (rest b c)], .tup (.inl (.inl h2)) (.cons (.str _) (.cons (Enc.dp K a4) .nil)), .tup (.inl (.inl g2)) (.cons (.str _) (.cons (Enc.dp K b4) .nil)), shaped2 (by decide +kernel) (by decide), eqv2⟩
theorem ev_neAw {b : List Cell} {c : Cell} (ha : EvP ta s H (aw b c)) (hb : EvP tb s H (aw b c)) : EvP (tOp (rNeD K) ta tb) s H (en false) := fun H1 e Q q =>
  ha H1 e _ fun x H2 e2 hx => hb H2 (e.tr e2) _ fun y H3 e3 hy => by
    obtain ⟨d, h1, h2, h3, h4⟩ := aw_one (K := K) (AW.up e3 hx) hy
    exact ⟨d, d, h1, h2, h3, h3, q _ H3 (e2.tr e3) (by rw [h4]; exact rfl)⟩
theorem dp_tl {H : Hp} {v : V} {xs : List Paper} (h : (tlp xs).p H v) : Dp K H v (.tuple [.str "told", .list (xs.map Enc.d)]) := by
  obtain ⟨T, p, rfl, h1, us, h2, h3⟩ := h
  exact .tup (.inl (.inl h1)) (.cons (.str _) (.cons (.lst (.inl (.inl h2)) (encs_dp K h3)) .nil))
theorem ev_neTl {xs : List Paper} (ha : EvP ta s H (tlp xs)) (hb : EvP tb s H (tlp xs)) : EvP (tOp (rNeD K) ta tb) s H (en false) := fun H1 e Q q =>
  ha H1 e _ fun v H2 e2 hv => hb H2 (e.tr e2) _ fun w H3 e3 hw => by
    have hs : SeqAt.shaped (.tuple [.str "told", .list (xs.map Enc.d)]) = true := by
      have h1 : PyData.depthAll (xs.map Enc.d) ≤ 3 := encs_dep xs
      show (PyData.canLay0 _ && decide (PyData.depth _ ≤ 64)) = true
      rw [Bool.and_eq_true]
      refine ⟨by simp [PyData.canLay0, PyData.canLayAll0, encs_lay]; decide +kernel, decide_eq_true ?_⟩
      simp only [PyData.depth, PyData.depthAll]
      omega
    refine ⟨_, _, dp_tl ((tlp xs).up e3 hv), dp_tl hw, hs, hs, q _ H3 (e2.tr e3) ?_⟩
    have : PyData.eqv (.tuple [.str "told", .list (xs.map Enc.d)]) (.tuple [.str "told", .list (xs.map Enc.d)]) = true := by
      simp [PyData.eqv, PyData.eqvAll, encs_inj]
    rw [this]
    exact rfl
theorem ev_tlp {xs : List Paper} (h : EvP te s H (li xs)) : EvP (tTup (tCons (tC (.str "told")) (tCons te tNil))) s H (tlp xs) := fun H1 e Q q =>
  h H1 e _ fun v H2 e2 ⟨p, ev, hv⟩ => ⟨by show 2 ≤ sizeLine; decide, fun T nT => q _ _ (e2.tr (Ex.new nT)) ⟨T, p, rfl, by rw [ev]; exact upd_same, hv.up (Ex.new nT)⟩⟩
theorem ev_npP {i : Int} (h : EvP te s H (en i)) : EvP (tTup (tCons (tC (.str "not")) (tCons (tC (.str "plan")) (tCons te tNil)))) s H (npP i) := fun H1 e Q q =>
  h H1 e _ fun v H2 e2 hv => by
    obtain rfl : v = .int i := hv
    exact ⟨by show 3 ≤ sizeLine; decide, fun T nT => q _ _ (e2.tr (Ex.new nT)) ⟨T, rfl, upd_same⟩⟩
theorem ev_neNp {i : Int} (ha : EvP ta s H (npP i)) (hb : EvP tb s H (npP i)) : EvP (tOp (rNeD K) ta tb) s H (en false) := fun H1 e Q q =>
  ha H1 e _ fun v H2 e2 hv => hb H2 (e.tr e2) _ fun w H3 e3 hw => by
    have hdp : ∀ {H : Hp} {v : V}, (npP i).p H v → Dp K H v (.tuple [.str "not", .str "plan", .int i]) := fun {H v} h => by
      obtain ⟨T, rfl, h1⟩ := h
      exact .tup (.inl (.inl h1)) (.cons (.str _) (.cons (.str _) (.cons (.int i) .nil)))
    have hs : SeqAt.shaped (.tuple [.str "not", .str "plan", .int i]) = true := by
      show (PyData.canLay0 _ && decide (PyData.depth _ ≤ 64)) = true
      rw [Bool.and_eq_true]
      refine ⟨by simp [PyData.canLay0, PyData.canLayAll0]; decide +kernel, decide_eq_true ?_⟩
      simp only [PyData.depth, PyData.depthAll]
      omega
    refine ⟨_, _, hdp ((npP i).up e3 hv), hdp hw, hs, hs, q _ H3 (e2.tr e3) ?_⟩
    have : PyData.eqv (.tuple [.str "not", .str "plan", .int i]) (.tuple [.str "not", .str "plan", .int i]) = true := by
      simp [PyData.eqv, PyData.eqvAll]
    rw [this]
    exact rfl
end
section
variable {P : Program} {w : World} {K : PySem.W.Frag} {mg : Str → Option Value} {base : Heap} {C CT CB CN : Addr}
abbrev s_law_t2_asked : Stmt := topS 59
abbrev n_law_t2_asked : List Str := ["_law_body", "_law_start", "_law_told", "e"]
theorem sc_law_t2_asked : FnScope n_law_t2_asked ["_law_body", "_law_start"] (defScope s_law_t2_asked) := ⟨rfl, rfl, rfl, by decide +kernel, rfl, by decide +kernel, by decide +kernel⟩
def spAskedW : Sp := S2 fun P1 P2 Pz => ∃ (b : List Cell) (c : Cell), P1 = en b ∧ P2 = en c ∧ b.length ≤ 1000 ∧ Hang b ∧ Pz = aw b c
theorem ok_law_asked (T : Txt K mg "_law_t2_asked" "_law_t2_asked" s_law_t2_asked ["_law_body", "_law_start"]) (Z : Blt mg) (N_NotThere : E1M P w K mg base CT "NotThere" "cell") (N_BadBody : E1M P w K mg base CB "BadBody" "cells") (te2 : PySem.W.exmOne K (.ref CB) (.ref CT) = some false)
    (C_witness_of : CalX P w K mg base 8 "witness_of" ["body", "start"] (spWitnessC CT CB)) : Cal P w K mg base 9 "_law_t2_asked" ["_law_body", "_law_start"] spAskedW :=
  T.cal sc_law_t2_asked S2.len fun f cdv A outer s H vs Q E hr h => by
    obtain ⟨v1, v2, P1, P2, Pz, rfl, ⟨b, c, rfl, rfl, hlen, hang, rfl⟩, h1, h2, q⟩ := h
    refine ⟨_, (pss_cons (ps_set (i := 2) sc_law_t2_asked.nd rfl (Or.inl rfl) pe_non)
      (pss_cons (ps_try_named (Wo := fun _ _ _ _ => False) rfl rfl sc_law_t2_asked.nd takes0 (fun W pn xe tk _ => (pss_one (ps_set (i := 2) sc_law_t2_asked.nd rfl (Or.inl rfl) (pe_tup (pa_cons pe_str (pa_cons (pe_calX C_witness_of (hr.mono (by decide)) (fun σ => passAt tk σ) (pa_cons (pv 0) (pa_cons (pv 1) pa_nil))) pa_nil)))))) (.one (j := 3) rfl rfl ⟨rfl, by decide, .inl N_NotThere.gC⟩ (fun a oe cls d pn hz hf => (pss_one (ps_set (i := 2) sc_law_t2_asked.nd rfl (Or.inl rfl) (pe_tup (pa_cons pe_str (pa_cons (pe_xf N_NotThere.xf N_NotThere.n_cell hz hf (pv 3)) pa_nil)))))) (.one (j := 3) rfl rfl ⟨rfl, by decide, .inl N_BadBody.gC⟩ (fun a oe cls d pn hz hf => (pss_one (ps_set (i := 2) sc_law_t2_asked.nd rfl (Or.inl rfl) (pe_tup (pa_cons pe_str (pa_cons (pe_xf N_BadBody.xf N_BadBody.n_cells hz hf (pv 3)) pa_nil)))))) .none)))
      (pss_one (ps_ret (pv 2))))), ?_⟩
    refine q_asg (P := nn) ev_non fun v0 H0 e0 hv0 => ?_
    have h1' := en_up e0 h1
    have h2' := en_up e0 h2
    by_cases hin : c ∈ b
    · by_cases hh : Hang (rest b c)
      · refine raw_seqL (raw_asg (raw_tup (raw_cons (raw_c (raw_cons (raw_callS (raw_cons ⟨v1, rfl, raw_cons ⟨v2, rfl, ⟨v1, v2, b, c, rfl, h1', h2', hlen, .inl ⟨hin, hh, near_ex hang hin hh, fun ws u H1 hws e1 hu => ⟨by show 2 ≤ sizeLine; decide, fun T nT => ?_⟩⟩⟩⟩⟩)))))))
        show tRet (tVar 2) _ _ _
        exact raw_ret ⟨.ref T, rfl, q (.ref T) _ ((e0.tr e1).tr (Ex.new nT)) ⟨T, "told", u, rfl, upd_same, .inr (.inl ⟨hin, hh, rfl, ws, hws, en_up (Ex.new nT) hu⟩)⟩⟩
      · refine raw_seqL (raw_asg (raw_tup (raw_cons (raw_c (raw_cons (raw_callS (raw_cons ⟨v1, rfl, raw_cons ⟨v2, rfl, ⟨v1, v2, b, c, rfl, h1', h2', hlen, .inr (.inr ⟨hin, hh, fun d u H1 e1 hd hu => ⟨false, te2, (fun q => nomatch q), fun _ => ⟨true, N_BadBody.te, fun _ a na => ?_, fun q => nomatch q⟩⟩⟩)⟩⟩⟩)))))))
        refine raw_asg (raw_tup (raw_cons (raw_c (raw_cons ⟨.ref a, rfl, rfl, rfl, d, _, u, rfl, hd, rfl, ⟨by show 2 ≤ sizeLine; decide, fun T nT => ?_⟩⟩))))
        show tRet (tVar 2) _ _ _
        exact raw_ret ⟨.ref T, rfl, q (.ref T) _ ((e0.tr e1).tr (Ex.new nT)) ⟨T, "body", u, rfl, upd_same, .inr (.inr ⟨hin, hh, rfl, en_up (Ex.new nT) hu⟩)⟩⟩
    · refine raw_seqL (raw_asg (raw_tup (raw_cons (raw_c (raw_cons (raw_callS (raw_cons ⟨v1, rfl, raw_cons ⟨v2, rfl, ⟨v1, v2, b, c, rfl, h1', h2', hlen, .inr (.inl ⟨hin, fun d H1 e1 hd => ⟨true, N_NotThere.te, fun _ a na => ?_, fun q => nomatch q⟩⟩)⟩⟩⟩)))))))
      refine raw_asg (raw_tup (raw_cons (raw_c (raw_cons ⟨.ref a, rfl, rfl, rfl, d, _, v2, rfl, hd, rfl, ⟨by show 2 ≤ sizeLine; decide, fun T nT => ?_⟩⟩))))
      show tRet (tVar 2) _ _ _
      exact raw_ret ⟨.ref T, rfl, q (.ref T) _ ((e0.tr e1).tr (Ex.new nT)) ⟨T, "there", v2, rfl, upd_same, .inl ⟨hin, rfl, en_up ((e0.tr e1).tr (Ex.new nT)) h2⟩⟩⟩
abbrev s_law_t2_due : Stmt := topS 60
abbrev n_law_t2_due : List Str := ["_law_body", "_law_start", "_law_rest", "_law_cell"]
theorem sc_law_t2_due : FnScope n_law_t2_due ["_law_body", "_law_start"] (defScope s_law_t2_due) := ⟨rfl, rfl, rfl, by decide +kernel, rfl, by decide +kernel, by decide +kernel⟩
theorem ok_law_due (T : Txt K mg "_law_t2_due" "_law_t2_due" s_law_t2_due ["_law_body", "_law_start"]) (Z : Blt mg) (C_law_t2_hangs : Cal P w K mg base 3 "_law_t2_hangs" ["_law_cells"] spHangs) (C_law_t2_witness : Cal P w K mg base 2 "_law_t2_witness" ["_law_body", "_law_start"] spWitnessX) : Cal P w K mg base 4 "_law_t2_due" ["_law_body", "_law_start"] spAskedW :=
  T.cal sc_law_t2_due S2.len fun f cdv A outer s H vs Q E hr h => by
    obtain ⟨v1, v2, P1, P2, Pz, rfl, ⟨b, c, rfl, rfl, hlen, hang, rfl⟩, h1, h2, q⟩ := h
    refine ⟨_, (pss_cons (ps_setLc (i := 2) (own := [("_law_cell", 3)]) (g := gName 3)  rfl sc_law_t2_due.nd rfl rfl (sw_true rfl rfl rfl (by decide +kernel)) (pi_tup (pv 0)) (blkOk_by (N := n_law_t2_due) (sc := defScope s_law_t2_due) (by decide +kernel)) (fun _ _ _ _ _ => (pg_name (i := 3) sc_law_t2_due.nd rfl (Or.inl rfl))) (fun _ _ _ _ _ => (pts_one (pt_cmpR (op_neD (ru64 hr) : OpR _ _ (rNeD K)) (pv 3) (pv 1) (nomark _)))) (fun _ _ _ _ _ => (pv 3)))
      (pss_cons (ps_if (pt_cmpR (op_notInU (ru65 hr)) (pv 1) (pv 0) (by rfl)) (pss_one (ps_ret (pe_tup (pa_cons pe_str (pa_cons (pv 1) pa_nil))))) pss_nil)
      (pss_one (ps_ret (pe_ifExp (pt_val (pe_cal C_law_t2_hangs (hr.mono (by decide)) (pa_cons (pv 2) pa_nil))) (pe_tup (pa_cons pe_str (pa_cons (pe_cal C_law_t2_witness (hr.mono (by decide)) (pa_cons (pv 0) (pa_cons (pv 1) pa_nil))) pa_nil))) (pe_tup (pa_cons pe_str (pa_cons (pe_callTy call_tuple_of (by rfl) Z.tuple (by decide +kernel) (pa_cons (pv 2) pa_nil)) pa_nil)))))))), ?_⟩
    have hrl : (rest b c).length ≤ 1000 := Nat.le_trans rest_len hlen
    refine q_asgN ((en_lcT (f := fun x => x) (p := fun x => !decide (x = c)) (ev_var rfl h1) (by omega) fun x u H' hx e hu => ⟨eb_test (ev_neE (ev_var rfl hu) (ev_var rfl (en_up e h2))), fun _ => ev_var rfl hu⟩).is (ys := rest b c) (List.map_id' _)) fun pr H1 nr e1 hr0 => ?_
    refine q_ifN (b := !memB c b) (eb_test (ev_niU (ev_var rfl (en_up e1 h2)) (ev_var rfl (en_up e1 h1)))) (fun hb H2 e2 => ?_) fun hb H2 e2 => ?_
    · have hno : c ∉ b := fun z => by
        rw [memB_iff.mpr z] at hb
        cases hb
      refine raw_ret (raw_tup (raw_cons (raw_c (raw_cons ⟨v2, rfl, ⟨by show 2 ≤ sizeLine; decide, fun T nT => ?_⟩⟩))))
      exact q (.ref T) _ ((e1.tr e2).tr (Ex.new nT)) ⟨T, "there", v2, rfl, upd_same, .inl ⟨hno, rfl, en_up ((e1.tr e2).tr (Ex.new nT)) h2⟩⟩
    · have hin : c ∈ b := by
        cases hz : memB c b with
        | true => exact memB_iff.mp hz
        | false =>
          rw [hz] at hb
          cases hb
      have e02 := e1.tr e2
      refine s_ret (P := aw b c) (ev_if (b := hangB (rest b c)) (eb_B (ev_c1 (P1 := li (rest b c)) (ea_cons (ev_li rfl (hr0.up e2)) ea_nil) ⟨_, rfl, hrl, rfl⟩)) (fun hb => ?_) fun hb => ?_) fun v H3 e3 hv => q v H3 (e02.tr e3) hv
      · have hh := hangB_iff.mp hb
        exact fun H3 e3 Q' q' => raw_tup (raw_cons (raw_c (raw_cons ((ev_c2 (P1 := en b) (P2 := en c) (Pz := enX (WitOf b c)) (ea_cons (ev_var rfl (en_up e02 h1)) (ea_cons (ev_var rfl (en_up e02 h2)) ea_nil)) ⟨_, _, rfl, rfl, hlen, hh, near_ex hang hin hh, rfl⟩) H3 e3 _ fun u H4 e4 ⟨ws, hws, hu⟩ => ⟨by show 2 ≤ sizeLine; decide, fun T nT => q' _ _ (e4.tr (Ex.new nT)) ⟨T, "told", u, rfl, upd_same, .inr (.inl ⟨hin, hh, rfl, ws, hws, en_up (Ex.new nT) hu⟩)⟩⟩))))
      · have hh : ¬ Hang (rest b c) := fun z => by
          rw [hangB_iff.mpr z] at hb
          cases hb
        exact fun H3 e3 Q' q' => raw_tup (raw_cons (raw_c (raw_cons ((ev_tupleL rfl (ev_li rfl (hr0.up e2))) H3 e3 _ fun u H4 e4 hu => ⟨by show 2 ≤ sizeLine; decide, fun T nT => q' _ _ (e4.tr (Ex.new nT)) ⟨T, "body", u, rfl, upd_same, .inr (.inr ⟨hin, hh, rfl, en_up (Ex.new nT) hu⟩)⟩⟩))))
abbrev s_law_t2_steps_told : Stmt := topS 61
abbrev n_law_t2_steps_told : List Str := ["_law_body", "_law_plan", "_law_told", "e"]
theorem sc_law_t2_steps_told : FnScope n_law_t2_steps_told ["_law_body", "_law_plan"] (defScope s_law_t2_steps_told) := ⟨rfl, rfl, rfl, by decide +kernel, rfl, by decide +kernel, by decide +kernel⟩
def spStepsTold : Sp := fun vs H Q _ => ∃ (v1 v2 : V) (b : List Cell), vs = [v1, v2] ∧ En H v1 b ∧ b.length ≤ 1000 ∧ Hang b ∧
  ((∃ plan ps, (li plan).p H v2 ∧ plan.length ≤ 100 ∧ okPlan b plan = true ∧ PapX b plan ps ∧ ∀ u H', Ex H H' → (tlp ps).p H' u → Q u H') ∨
   (∃ plan, ∃ (i : Nat) (m : Cell × Cell), (li plan).p H v2 ∧ plan.length ≤ 100 ∧ plan[i]? = some m ∧ okPlan b (plan.take i) = true ∧ okMove (endB b (plan.take i)) m.1 m.2 = false ∧ ∀ u H', Ex H H' → (npP (i : Int)).p H' u → Q u H') ∨
   ∃ k : Nat, OddPlan H v2 b k ∧ ∀ u H', Ex H H' → (npP (k : Int)).p H' u → Q u H')
theorem spStepsTold_len {x y : Str} : ∀ vs H Q E, spStepsTold vs H Q E → vs.length = [x, y].length := fun vs H Q E ⟨_, _, _, e, _⟩ => by
  subst e
  rfl
theorem ok_law_steps_told (T : Txt K mg "_law_t2_steps_told" "_law_t2_steps_told" s_law_t2_steps_told ["_law_body", "_law_plan"]) (Z : Blt mg) (N_NotKept : NkM P w K mg base CN) (C_steps_of : CalX P w K mg base 13 "steps_of" ["body", "plan"] (spStepsOf C CN)) (C_law_t2_told_papers : Cal P w K mg base 1 "_law_t2_told_papers" ["_law_steps"] (spToldPapers C)) : Cal P w K mg base 14 "_law_t2_steps_told" ["_law_body", "_law_plan"] spStepsTold :=
  T.cal sc_law_t2_steps_told spStepsTold_len fun f cdv A outer s H vs Q E hr h => by
    obtain ⟨v1, v2, b, rfl, h1, hlen, hang, h⟩ := h
    refine ⟨_, (pss_cons (ps_set (i := 2) sc_law_t2_steps_told.nd rfl (Or.inl rfl) pe_non)
      (pss_cons (ps_try_as (i := 3) (Wout := fun _ _ _ _ => False) rfl rfl sc_law_t2_steps_told.nd rfl rfl ⟨rfl, by decide, .inl N_NotKept.gC⟩ takes0 (fun W pn xe tk _ => (pss_one (ps_set (i := 2) sc_law_t2_steps_told.nd rfl (Or.inl rfl) (pe_tup (pa_cons pe_str (pa_cons (pe_cal C_law_t2_told_papers (hr.mono (by decide)) (pa_cons (pe_calX C_steps_of (hr.mono (by decide)) (fun σ => passAt tk σ) (pa_cons (pv 0) (pa_cons (pv 1) pa_nil))) pa_nil)) pa_nil)))))) (fun a oe cls d pn hz hf => (pss_one (ps_set (i := 2) sc_law_t2_steps_told.nd rfl (Or.inl rfl) (pe_tup (pa_cons pe_str (pa_cons (pe_xf N_NotKept.xf N_NotKept.n_promise hz hf (pv 3)) (pa_cons (pe_xf N_NotKept.xf N_NotKept.n_witness hz hf (pv 3)) pa_nil))))))))
      (pss_one (ps_ret (pv 2))))), ?_⟩
    refine q_asg (P := nn) ev_non fun v0 H0 e0 hv0 => ?_
    have h1' := en_up e0 h1
    rcases h with ⟨plan, ps, hp, hpl, hok, hpx, q⟩ | ⟨plan, i, m, hp, hpl, hm, hok, hbad, q⟩ | ⟨k, ho, q⟩
    · have hpsl : ps.length ≤ 1000 := by
        have := hpx.1
        omega
      refine raw_seqL (raw_asg (raw_tup (raw_cons (raw_c (raw_cons (raw_call (raw_cons (raw_callS (raw_cons ⟨v1, rfl, raw_cons ⟨v2, rfl, ⟨v1, v2, b, rfl, h1', hlen, hang, .inl ⟨plan, ps, (li plan).up e0 hp, hpl, hok, hpx, fun u H1 e1 hu => ⟨u, tr (stR C) ps, _, rfl, ⟨ps, rfl, hpsl, rfl⟩, hu, fun p H2 n n' e2 hp2 => ⟨by show 2 ≤ sizeLine; decide, fun T nT => ?_⟩⟩⟩⟩⟩⟩)))))))))
      show tRet (tVar 2) _ _ _
      exact raw_ret ⟨.ref T, rfl, q (.ref T) _ (((e0.tr e1).tr e2).tr (Ex.new nT)) ⟨T, p, rfl, upd_same, (li_at hp2).up (Ex.new nT)⟩⟩
    · refine raw_seqL (raw_asg (raw_tup (raw_cons (raw_c (raw_cons (raw_call (raw_cons (raw_callS (raw_cons ⟨v1, rfl, raw_cons ⟨v2, rfl, ⟨v1, v2, b, rfl, h1', hlen, hang, .inr (.inl ⟨plan, i, m, (li plan).up e0 hp, hpl, hm, hok, hbad, fun d H1 e1 hd => ⟨true, N_NotKept.te, fun _ a na => ?_, fun q => nomatch q⟩⟩)⟩⟩⟩)))))))))
      refine raw_asg (raw_tup (raw_cons (raw_c (raw_cons ⟨.ref a, rfl, rfl, rfl, d, _, .str "plan", rfl, hd, rfl, raw_cons ⟨.ref a, rfl, rfl, rfl, d, _, .int (i : Int), rfl, hd, rfl, ⟨by show 3 ≤ sizeLine; decide, fun T nT => ?_⟩⟩⟩))))
      show tRet (tVar 2) _ _ _
      exact raw_ret ⟨.ref T, rfl, q (.ref T) _ ((e0.tr e1).tr (Ex.new nT)) ⟨T, rfl, upd_same⟩⟩
    · refine raw_seqL (raw_asg (raw_tup (raw_cons (raw_c (raw_cons (raw_call (raw_cons (raw_callS (raw_cons ⟨v1, rfl, raw_cons ⟨v2, rfl, ⟨v1, v2, b, rfl, h1', hlen, hang, .inr (.inr ⟨k, ho.up e0, fun d H1 e1 hd => ⟨true, N_NotKept.te, fun _ a na => ?_, fun q => nomatch q⟩⟩)⟩⟩⟩)))))))))
      refine raw_asg (raw_tup (raw_cons (raw_c (raw_cons ⟨.ref a, rfl, rfl, rfl, d, _, .str "plan", rfl, hd, rfl, raw_cons ⟨.ref a, rfl, rfl, rfl, d, _, .int (k : Int), rfl, hd, rfl, ⟨by show 3 ≤ sizeLine; decide, fun T nT => ?_⟩⟩⟩))))
      show tRet (tVar 2) _ _ _
      exact raw_ret ⟨.ref T, rfl, q (.ref T) _ ((e0.tr e1).tr (Ex.new nT)) ⟨T, rfl, upd_same⟩⟩
end
end TB
set_option Elab.async false
set_option linter.all false
set_option maxRecDepth 100000
set_option maxHeartbeats 4000000
/-! TQ: the law's def where nobody is being shown: its promise at the caller alone. -/
namespace TB
open PySem PySem.Spec PyProof.Rows L2
section
variable {P : Program} {w : World} {K : PySem.W.Frag} {mg : Str → Option Value} {base : Heap}
/-- the promise of a def, called by the harness -/
def FnC (P : Program) (w : World) (K : PySem.W.Frag) (mg : Str → Option Value) (base : Heap) (f : Addr) (fd : FuncData) (ps : List Str) (sp : Sp) : Prop :=
  ∀ (sh : Shared) (G : Hp) (ar : Args) (us : List Value) (vs : List V) (Q : VK) (E : XK), Env0 P w K mg base callerA [] sh G → BindsTo sh fd ar (ps.zip us) → Vals vs us → sp vs G Q E → codeAny (model P w) callerA (.call (.ref f) ar) (CR CX0 [] P w G sh Q E) sh
theorem fnC_of {x qual : Str} {st : Stmt} {f : Addr} {fd : FuncData} {N ps : List Str} {k : Nat} {sp : Sp} (T : Fun K x qual st f fd) (S : FnScope N ps (defScope st)) (len : ∀ vs H Q E, sp vs H Q E → vs.length = ps.length) (room : Room (k + 1) callerA)
    (hbody : ∀ (cdv : Value) (A : Around) (outer : List Env) (s : Shared) (H : Hp) (vs : List V) (Q : VK) (E : XK), A.guards = some [] → Room k (A.deeper (envOfC qual (defScope st) s.heap.objs.size f cdv)) → sp vs H Q E →
      ∃ t, PSs (cxOf CX0 P w K mg base N qual (defScope st) f cdv A outer s H E).nox (defBody st) t ∧ t { nx := fun _ H' => Q .non H', rt := Q } (start N vs) H) : FnC P w K mg base f fd ps sp := by
  intro sh G ar us vs Q E en bd rel wish
  obtain ⟨oc, od, kV, doc, pm, an, cdv, ct, osl, rfl, lk, cok⟩ := T.ex
  have size := len _ _ _ _ wish
  have kin : K.In sh.heap := en.mod.kin.keeps fun b o e => (en.bs b o e).1
  have nolim : sh.heap.NoLimit := en.mod.nolimit.keeps fun b o e => (en.bs b o e).1
  have kinds : ∀ y ∈ ps.zip us, (defScope st).names.lookup y.1 = some .local ∨ ((defScope st).names.lookup y.1 = some .cell ∧ ((cellsFrom (sh.heap.objs.size + 1) (defScope st).names []).lookup y.1).isSome = true) := by
    rintro ⟨nm, val⟩ isin
    exact (S.par nm (List.of_mem_zip isin).1).imp id fun q => ⟨q, PySem.W.cellsFrom_some _ _ _ (.inl q)⟩
  refine codeAny_call_function room.depth (kin _ _ lk) rfl S.co S.gen rfl (PySem.W.codeRec_of kin cok) (bd _ _ _ _ ?_)
  refine wpAny_newFunctionEnv_cells S.kind kinds fun env isEnv s1 inC => ?_
  subst isEnv
  refine ⟨nolim.keeps inC.toInCall.keep, codeAny_func ?_⟩
  obtain ⟨t, pt, wt⟩ := hbody cdv callerA [] sh G vs Q E rfl (room.deeper _) wish
  have J : Inv (cxOf CX0 P w K mg base N qual (defScope st) f cdv callerA [] sh G E) [] (start N vs) G s1 := inv_start S room.hd en size rel inC
  have out : ∀ {τ : TSt} {G' : Hp} {v : V} {u : Value} {s2 : Shared}, Inv (cxOf CX0 P w K mg base N qual (defScope st) f cdv callerA [] sh G E) [] τ G' s2 → RelV v u → Q v G' → CE [] P w G sh Q u s2 := fun {τ G' v u s2} I r q => ⟨v, G', I.os, I.bare, I.base, I.hok, r, q⟩
  refine wpAny_mono (pt.nox.run [] s1 (start N vs) G _ J wt) (fun fl s2 done => ?_) fun _ _ z => z
  rcases fl with _ | _ | _ | u
  · obtain ⟨_, _, I, q⟩ := done
    exact out (v := V.non) (u := Value.none) I rfl q
  · obtain ⟨_, _, _, no⟩ := done
    exact no.elim
  · obtain ⟨_, _, _, no⟩ := done
    exact no.elim
  · obtain ⟨_, _, _, I, r, q⟩ := done
    exact out I r q
end
/-- the harness calls the law: the script alone is tracked, or an object of the module -/
theorem callC {P : Program} {w : World} {K : PySem.W.Frag} {mg mb : Str → Option Value} {fa a : Addr} {fd : FuncData} {x : Str} {sp : Sp} {st : Shared} {vs : List Value} {ns : List Int}
    (kin : K.In st.heap) (glob : st.heap.Ns mainGlobals mg) (bns : st.heap.Ns builtinsNs mb) (boot : ∀ x : Str, x ≠ "__name__" → mb x = bootBuiltins x) (nolim : st.heap.NoLimit) (nogen : st.gens = #[])
    (obj : st.heap.get? a = some { cls := .type "list", data := .seq vs.toArray }) (nums : IntsAre vs ns) (few : ns.length ≤ sizeLine)
    (F : ∀ base : Heap, K.In base → base.Ns mainGlobals mg → FnC P w K mg base fa fd [x] sp) (bd : ∀ (s : Shared) (u : Value), BindsTo s fd ⟨[u], []⟩ [(x, u)])
    (wish : ∀ G : Hp, SqL K G a (ns.map V.int) → sp [.ref a] G (fun v _ => v = .bl true) fun _ _ _ => False) :
    codeAny (model P w) callerA (.call (.ref fa) ⟨[.ref a], []⟩) (fun r s' => r = .ok (.ret (.bool true)) ∧ OldK st.heap s'.heap ∧ s'.os = st.os ∧ AllBare s'.gens) st := by
  have rel := vals_ints nums
  have size := nums.length
  have go : ∀ G : Hp, Only G → SqL K G a (ns.map V.int) → HOk P w G st.heap → (∀ b, G b ≠ none → b = a) → (G a ≠ none → K.lookup a = none) →
      codeAny (model P w) callerA (.call (.ref fa) ⟨[.ref a], []⟩) (fun r s' => r = .ok (.ret (.bool true)) ∧ OldK st.heap s'.heap ∧ s'.os = st.os ∧ AllBare s'.gens) st := by
    intro G only sq hok one away
    have dicts : ∀ {b : Addr} {o : Obj} {es : Array DictEntry} {ep : Nat}, st.heap.get? b = some o → o.data = .dict es ep → G b = none := fun {b o es ep} at' isD => by
      refine Classical.byContradiction fun some' => ?_
      have eq : b = a := one b some'
      subst eq
      rw [obj] at at'
      cases at'
      have isD : Data.seq vs.toArray _ = Data.dict es ep := isD
      cases isD
    have spaces : ∀ {b : Addr} {m : Str → Option Value}, st.heap.Ns b m → (hidT st.heap G).Ns b m := fun {b m} ⟨o, es, ep, at', isD, rest⟩ => ⟨o, es, ep, hidT_get at' (dicts at' isD), isD, rest⟩
    have kin2 : K.In (hidT st.heap G) := fun b o at' => hidT_get (kin b o at') (Classical.byContradiction fun some' => by
      have eq : b = a := one b some'
      subst eq
      rw [away some'] at at'
      cases at')
    have mod : Mod K mg (hidT st.heap G) := ⟨kin2, spaces glob, ⟨mb, spaces bns, boot⟩, by
      obtain ⟨mc, l1, l2⟩ := nolim
      exact ⟨mc, spaces l1, l2⟩⟩
    have env : Env0 P w K mg (hidT st.heap G) callerA [] st G := ⟨rfl, mod, fun _ _ at' => of_hidT at', Nat.le_of_eq (hidT_size _ _), trivial, fun b isin => absurd (show b ∈ ([] : List Addr) from isin) List.not_mem_nil, hok, .of_eq nogen⟩
    refine codeAny_mono (F _ kin2 (spaces glob) st G ⟨[.ref a], []⟩ [.ref a] [.ref a] _ _ env (bd st (.ref a)) (.cons rfl .nil) (wish G sq)) fun r s' done => ?_
    rcases r with err | fl
    · obtain ⟨_, _, _, _, _, _, _, _, _, _, _, _, no⟩ := done
    · rcases fl with _ | _ | _ | u
      · exact False.elim done
      · exact False.elim done
      · exact False.elim done
      · obtain ⟨v, G', os, bare, un, hok', rv, isTrue⟩ := done
        obtain rfl : v = .bl true := isTrue
        obtain rfl : u = Value.bool true := rv
        refine ⟨rfl, OldK.of_keep fun b o at' => ?_, os, bare⟩
        rcases only b with no | ⟨ob, xs, fr⟩
        · exact un.keep b o at' no (fun z => absurd (show b ∈ ([] : List Addr) from z) List.not_mem_nil) (by simp)
        · have fr' := un.frzs b ob _ fr
          obtain ⟨g1, _⟩ := hok b _ fr
          obtain ⟨g2, _⟩ := hok' b _ fr'
          rw [at'] at g1
          cases g1
          exact g2
  cases look : K.lookup a with
  | some o =>
    have at' := kin a o look
    rw [obj] at at'
    cases at'
    exact go (fun _ => none) (fun _ => .inl rfl) (.inr ⟨_, vs.toArray, _, look, rfl, rfl, rfl, by rw [List.size_toArray, size]; exact few, by simpa using rel⟩) (fun _ u z => by
      have z : (none : Option HO) = some u := z
      cases z) (fun _ z => absurd rfl z) fun z => absurd rfl z
  | none =>
    have away : ∀ b, b ≠ a → (fun b => if b = a then some (HO.frz { cls := .type "list", data := .seq vs.toArray } (.lst (ns.map V.int))) else none) b = none := fun b ne => if_neg ne
    refine go (fun b => if b = a then some (.frz { cls := .type "list", data := .seq vs.toArray } (.lst (ns.map V.int))) else none) (fun b => ?_) (.inl (.inr ⟨{ cls := .type "list", data := .seq vs.toArray }, if_pos rfl⟩)) (fun b u z => ?_) (fun b z => Classical.byContradiction fun ne => z (away b ne)) fun _ => look
    · exact (Classical.em (b = a)).elim (fun eq => .inr ⟨_, _, if_pos eq⟩) fun ne => .inl (away b ne)
    · rcases Classical.em (b = a) with eq | ne
      · have z2 := (if_pos eq).symm.trans z
        cases z2
        subst eq
        exact ⟨obj, by rw [List.length_map]; exact few, vs, _, rel, obj⟩
      · have z2 := (away b ne).symm.trans z
        cases z2
theorem walkC {l : PySem.W.OpenLaw} {n : Nat} {q : Program} {loose : List Str} {XP : (Str → Option Value) → Heap → Prop} {YP : World → Heap → Prop} {d : DefRec} {K : Params → PySem.W.Frag} {sp : World → Sp} {x : Str}
    (hn : l.most = some n) (small : n ≤ sizeLine) (plain : d.params.defaults = []) (hY : ∀ (w : World) (h : Heap), YP w h → (K w.params).In h)
    (F : ∀ (w : World) (mg : Str → Option Value) (fa : Addr) (h : Heap), (K w.params).In h → h.Ns mainGlobals mg → mg d.name = some (.ref fa) →
      ∃ fd : FuncData, (∀ (s : Shared) (u : Value), BindsTo s fd ⟨[u], []⟩ [(x, u)]) ∧ ∀ base : Heap, (K w.params).In base → base.Ns mainGlobals mg → FnC l.prog w (K w.params) mg base fa fd [x] (sp w))
    (wish : ∀ (w : World) (G : Hp) (a : Addr) (ns : List Int), ns.length ≤ n → SqL (K w.params) G a (ns.map V.int) → sp w [.ref a] G (fun v _ => v = .bl true) fun _ _ _ => False) :
    PySem.W.WalkO q loose XP YP l.row.toRowW d [] (fun f vs => PySem.call f vs) := by
  refine Att.attach_call hn plain fun w s0 st mg mb fa o pm cd doc a vs ns G Y ho hd hcd hmg obj nums few nogen => ?_
  obtain ⟨fd, bd, pr⟩ := F w mg fa _ (hY w _ Y) G.T.g hmg
  exact callC (hY w _ Y) G.T.g G.T.b G.T.builtins G.T.nolimit nogen obj nums (Nat.le_trans few small) pr bd fun H sq => wish w H a ns few sq
end TB
set_option Elab.async false
set_option linter.all false
set_option maxRecDepth 100000
set_option maxHeartbeats 4000000
/-! D86: repr of papers; how far away the squares are. -/
namespace TB
open PySem PySem.Spec PyProof.Rows L2
structure BltR (mg : Str → Option Value) : Prop extends Blt mg where
  zip : mg "zip" = none
  repr : mg "repr" = none
/-- repr(x), x a list or a tuple that can be shown -/
def rRepr (K : PySem.W.Frag) : List V → Hp → VK → Prop := fun xs H Q => ∃ (a : Addr) (d : PyData), xs = [V.ref a] ∧ Dp K H (.ref a) d ∧ d.showable = true ∧ d.canLay0 = true ∧ d.depth ≤ 60 ∧ d.shown.length ≤ sizeLine ∧ Q (.str d.shown) H
theorem cr_repr {X : Cx} (hg : X.A.guards = some []) (hu : X.A.units + 64 < cLine) : CallR X (.builtin "repr") (rRepr X.K) := by
  intro pins s t H vs us Q I r ⟨a, d, e, hd, hs, hc, hdp, hz, q⟩
  subst e
  rw [Vals.ref1 r]
  obtain ⟨as, rd⟩ := Dp.reads I d (.ref a) (.ref a) hd rfl
  refine repr_of_reads' rd hs (PyData.noDict_hsm (PyData.hasDict_of_canLay d hc)) hg (by omega) (fun _ _ h => h) (fun h' u tk hk => ⟨.str d.shown, H, I.kept hk, ⟨u, rfl⟩, q⟩) hz
/-! what can be shown -/
def BdI (i : Int) : Prop := i.natAbs < 2 ^ 64
def BdC (c : Cell) : Prop := BdI c.1 ∧ BdI c.2
theorem int_short {i : Int} (h : BdI i) : (PyData.shown (.int i)).length ≤ 66 := by
  have h1 : i.natAbs.log2 < 65 := by
    by_cases h0 : i.natAbs = 0
    · rw [h0]
      decide
    · have := (Nat.log2_lt h0 (k := 64)).mpr h
      omega
  have h2 := int_text_length_le (a := i) (k := 65) (by decide) h1
  simp only [PyData.shown]
  rw [PySem.ofString_length]
  exact h2
theorem int_showable {i : Int} (h : BdI i) : PyData.showable (.int i) = true := by
  simp only [PyData.showable]
  refine decide_eq_true ?_
  by_cases h0 : i.natAbs = 0
  · rw [h0]
    decide
  · have := (Nat.log2_lt h0 (k := 64)).mpr h
    omega
theorem cell_d (c : Cell) : Enc.d c = PyData.tuple [.int c.1, .int c.2] := rfl
theorem cell_short {c : Cell} (h : BdC c) : PyData.leavesShort 66 (Enc.d c) = true ∧ PyData.showable (Enc.d c) = true ∧ PyData.bulk (Enc.d c) = 2 := by
  rw [cell_d]
  have s1 := int_showable h.1
  have s2 := int_showable h.2
  have l1 : PyData.leavesShort 66 (.int c.1) = true := by
    simp only [PyData.leavesShort]
    exact decide_eq_true (int_short h.1)
  have l2 : PyData.leavesShort 66 (.int c.2) = true := by
    simp only [PyData.leavesShort]
    exact decide_eq_true (int_short h.2)
  refine ⟨by simp only [PyData.leavesShort, PyData.leavesShortAll] at l1 l2 ⊢; rw [l1, l2]; rfl, by simp only [PyData.showable, PyData.showableAll] at s1 s2 ⊢; rw [s1, s2]; rfl, by simp [PyData.bulk, PyData.bulkAll]⟩
theorem cells_short : ∀ {cs : List Cell}, (∀ c, c ∈ cs → BdC c) → PyData.leavesShortAll 66 (cs.map Enc.d) = true ∧ PyData.showableAll (cs.map Enc.d) = true ∧ PyData.bulkAll (cs.map Enc.d) = 3 * cs.length
  | [], _ => ⟨rfl, rfl, rfl⟩
  | c :: r, h => by
    obtain ⟨a1, a2, a3⟩ := cell_short (h c List.mem_cons_self)
    obtain ⟨b1, b2, b3⟩ := cells_short (cs := r) fun z hz => h z (List.mem_cons_of_mem _ hz)
    simp only [List.map_cons, PyData.leavesShortAll, PyData.showableAll, PyData.bulkAll, a1, a2, a3, b1, b2, b3, List.length_cons, Bool.and_self, true_and]
    omega
def BdP (p : Paper) : Prop := BdC p.s ∧ BdC p.e ∧ (∀ c, c ∈ p.sup → BdC c) ∧ ∀ c, c ∈ p.wit → BdC c
theorem paper_short {p : Paper} (h : BdP p) : PyData.leavesShort 66 (Enc.d p) = true ∧ PyData.showable (Enc.d p) = true ∧ PyData.bulk (Enc.d p) = 8 + 3 * (p.sup.length + p.wit.length) := by
  obtain ⟨h1, h2, h3, h4⟩ := h
  obtain ⟨a1, a2, a3⟩ := cell_short h1
  obtain ⟨b1, b2, b3⟩ := cell_short h2
  obtain ⟨c1, c2, c3⟩ := cells_short h3
  obtain ⟨d1, d2, d3⟩ := cells_short h4
  have e : Enc.d p = PyData.tuple [Enc.d p.s, Enc.d p.e, .tuple (p.sup.map Enc.d), .tuple (p.wit.map Enc.d)] := rfl
  rw [e]
  refine ⟨?_, ?_, ?_⟩
  · simp only [PyData.leavesShort, PyData.leavesShortAll, a1, b1, c1, d1, Bool.and_self]
  · simp only [PyData.showable, PyData.showableAll, a2, b2, c2, d2, Bool.and_self]
  · simp only [PyData.bulk, PyData.bulkAll, a3, b3, c3, d3]
    omega
theorem papers_short : ∀ {ps : List Paper}, (∀ p, p ∈ ps → BdP p ∧ smallP p) → PyData.leavesShortAll 66 (ps.map Enc.d) = true ∧ PyData.showableAll (ps.map Enc.d) = true ∧ PyData.bulkAll (ps.map Enc.d) ≤ 161 * ps.length
  | [], _ => ⟨rfl, rfl, Nat.zero_le _⟩
  | p :: r, h => by
    obtain ⟨hp, hs⟩ := h p List.mem_cons_self
    obtain ⟨a1, a2, a3⟩ := paper_short hp
    obtain ⟨b1, b2, b3⟩ := papers_short (ps := r) fun z hz => h z (List.mem_cons_of_mem _ hz)
    unfold smallP at hs
    simp only [List.map_cons, PyData.leavesShortAll, PyData.showableAll, PyData.bulkAll, a1, a2, a3, b1, b2, List.length_cons, Bool.and_self, true_and]
    omega
section
variable {K : PySem.W.Frag} {s : TSt} {H : Hp} {ta tb te : TE}
theorem ev_repr {ps : List Paper} (h : EvP te s H (li ps)) (hl : ps.length ≤ 100) (hb : ∀ p, p ∈ ps → BdP p ∧ smallP p) : EvP (tCB (rRepr K) (tCons te tNil)) s H (va (.str (PyData.shown (.list (ps.map Enc.d))))) := fun H1 e Q q =>
  h H1 e _ fun v H2 e2 ⟨a, ev, hv⟩ => by
    subst ev
    obtain ⟨l1, l2, l3⟩ := papers_short hb
    have hsh : (PyData.shown (.list (ps.map Enc.d))).length ≤ sizeLine := by
      have h1 := PyData.shown_le_bulk 66 (by decide) (.list (ps.map Enc.d)) (by simp only [PyData.leavesShort]; exact l1)
      have h2 : PyData.bulk (.list (ps.map Enc.d)) = PyData.bulkAll (ps.map Enc.d) := by simp only [PyData.bulk]
      rw [h2] at h1
      have h3 : (16777216 : Nat) ≤ sizeLine := by decide
      omega
    have hdp : PyData.depth (.list (ps.map Enc.d)) ≤ 60 := by
      have h1 : PyData.depthAll (ps.map Enc.d) ≤ 3 := encs_dep ps
      simp only [PyData.depth]
      omega
    exact ⟨a, .list (ps.map Enc.d), rfl, dp_li ⟨a, rfl, hv⟩, by simp only [PyData.showable]; exact l2, by simp only [PyData.canLay0]; exact encs_lay ps, hdp, hsh, q _ H2 e2 rfl⟩
theorem ev_neStr {x : Str} (ha : EvP ta s H (va (.str x))) (hb : EvP tb s H (va (.str x))) : EvP (tOp rNe ta tb) s H (en false) := fun H1 e Q q =>
  ha H1 e _ fun v H2 e2 hv => hb H2 (e.tr e2) _ fun w H3 e3 hw => by
    obtain rfl : v = .str x := hv
    obtain rfl : w = .str x := hw
    refine ⟨rfl, q _ H3 (e2.tr e3) ?_⟩
    show V.bl _ = V.bl _
    rw [decide_eq_true rfl]
    rfl
end
/-! how far away the squares are -/
def InB (k : Int) (b : List Cell) : Prop := ∀ c, c ∈ b → -k ≤ c.1 ∧ c.1 ≤ k ∧ -k ≤ c.2 ∧ c.2 ≤ k
def Nr (b : List Cell) : Prop := ∃ r, r ∈ b ∧ -10 ^ 16 ≤ r.1 ∧ r.1 ≤ 10 ^ 16 ∧ -10 ^ 16 ≤ r.2 ∧ r.2 ≤ 10 ^ 16
theorem reach_mid {B : List Cell} {f : Cell → Int} (hf : ∀ x y, y ∈ nbs x → f y ≤ f x + 1) {r x : Cell} (h : Reach (· ∈ B) r x) : ∀ v, f r ≤ v → v ≤ f x → ∃ y, y ∈ B ∧ f y = v := by
  induction h with
  | refl h => exact fun v h1 h2 => ⟨_, h, by omega⟩
  | @step y z h a s ih =>
    intro v h1 h2
    have h3 := hf y z a
    by_cases e : v ≤ f y
    · exact ih v h1 e
    · exact ⟨z, s, by omega⟩
theorem hang_bound {B : List Cell} (hB : Hang B) {f : Cell → Int} (hf : ∀ x y, y ∈ nbs x → f y ≤ f x + 1) {r x : Cell} (hr : r ∈ B) (hx : x ∈ B) : f x ≤ f r + B.length := by
  by_cases e : f x ≤ f r
  · omega
  · have hm := reach_mid hf (hB.2 r hr x hx)
    have h1 := nodup_len (xs := rng (f r) (f x - f r).toNat) (ys := B.map f) (by
      unfold rng
      refine List.pairwise_map.mpr (List.nodup_range.imp fun {a b} h z => h ?_)
      have z : f r + (a : Int) = f r + (b : Int) := z
      omega) fun v hv => by
      obtain ⟨v0, v1⟩ := mem_rng.mp hv
      obtain ⟨y, hy, e⟩ := hm v v0 (by omega)
      exact List.mem_map.mpr ⟨y, hy, e⟩
    rw [rng_len, List.length_map] at h1
    omega
theorem nbs_step {x y : Cell} (h : y ∈ nbs x) : y.1 ≤ x.1 + 1 ∧ x.1 ≤ y.1 + 1 ∧ y.2 ≤ x.2 + 1 ∧ x.2 ≤ y.2 + 1 := by
  obtain ⟨a, b⟩ := x
  obtain ⟨c, d⟩ := y
  simp only [nbs, List.mem_cons, Prod.mk.injEq, List.not_mem_nil, or_false] at h
  show c ≤ a + 1 ∧ a ≤ c + 1 ∧ d ≤ b + 1 ∧ b ≤ d + 1
  omega
theorem nr_in {b : List Cell} (hb : Hang b) (hl : b.length ≤ 1000) (h : Nr b) : InB (10 ^ 16 + 1000) b := by
  obtain ⟨r, hr, r1, r2, r3, r4⟩ := h
  intro c hc
  have h1 := hang_bound hb (f := fun c => c.1) (fun x y h => (nbs_step h).1) hr hc
  have h2 := hang_bound hb (f := fun c => -c.1) (fun x y h => by have := nbs_step h; show -y.1 ≤ -x.1 + 1; omega) hr hc
  have h3 := hang_bound hb (f := fun c => c.2) (fun x y h => (nbs_step h).2.2.1) hr hc
  have h4 := hang_bound hb (f := fun c => -c.2) (fun x y h => by have := nbs_step h; show -y.2 ≤ -x.2 + 1; omega) hr hc
  have h1 : c.1 ≤ r.1 + b.length := h1
  have h2 : -c.1 ≤ -r.1 + b.length := h2
  have h3 : c.2 ≤ r.2 + b.length := h3
  have h4 : -c.2 ≤ -r.2 + b.length := h4
  omega
theorem okMove_step {b : List Cell} {s e : Cell} (h : okMove b s e = true) : e.1 ≤ s.1 + 1 ∧ s.1 ≤ e.1 + 1 ∧ e.2 ≤ s.2 + 1 ∧ s.2 ≤ e.2 + 1 := by
  obtain ⟨h1, _⟩ := okMove_iff.mp h
  obtain ⟨sup, r, hs⟩ := ne_cons h1
  obtain ⟨⟨_, _, hm⟩, _⟩ := supp_cases hs
  unfold mx ab at hm
  repeat' split at hm
  all_goals omega
theorem in_done {k : Int} {b : List Cell} {s e : Cell} (h : InB k b) (hm : okMove b s e = true) : InB (k + 1) (done b s e) := fun c hc => by
  have hs := h s (okMove_in hm).1
  have hst := okMove_step hm
  rcases mem_done.mp hc with hc | hc
  · have := h c hc.1
    omega
  · subst hc
    omega
theorem in_endB {k : Int} {b : List Cell} : ∀ {pl : List (Cell × Cell)}, InB k b → okPlan b pl = true → InB (k + pl.length) (endB b pl) := fun {pl} h => by
  induction pl using snocInd with
  | h0 =>
    intro _ c hc
    have := h c hc
    simp only [List.length_nil]
    omega
  | h1 r x ih =>
    intro hok
    rw [okPlan_snoc, Bool.and_eq_true] at hok
    rw [endB_snoc, List.length_append, List.length_singleton]
    have := in_done (ih hok.1) hok.2
    intro c hc
    have := this c hc
    omega
theorem bdc_of {k : Int} {c : Cell} (h : -k ≤ c.1 ∧ c.1 ≤ k ∧ -k ≤ c.2 ∧ c.2 ≤ k) (hk : k ≤ 10 ^ 17) : BdC c := by
  unfold BdC BdI
  have e : (2 : Nat) ^ 64 = 18446744073709551616 := by decide
  rw [e]
  omega
theorem papx_bd {b : List Cell} {pl : List (Cell × Cell)} {ps : List Paper} (h : PapX b pl ps) (hb : Hang b) (hok : okPlan b pl = true) (hin : InB (10 ^ 16 + 1000) b) (hl : pl.length ≤ 1000) : ∀ p, p ∈ ps → BdP p := fun p hp => by
  obtain ⟨i, hi, e⟩ := List.getElem_of_mem hp
  have hpi : ps[i]? = some p := by rw [List.getElem?_eq_getElem hi, e]
  obtain ⟨m, hm⟩ : ∃ m, pl[i]? = some m := ⟨_, List.getElem?_eq_getElem (by have := h.1; omega)⟩
  obtain ⟨a1, a2, ⟨r, a3⟩, _⟩ := h.2 i m p hm hpi
  have a4 := (h.pap hb hok).2 i m p hm hpi |>.wit
  have hgood := okPlan_at hok hm
  have hB := in_endB hin (okPlan_pre hok i)
  have hlt := List.length_take_le' i pl
  have hk : (10 ^ 16 + 1000 + ((pl.take i).length : Int)) + 1 ≤ 10 ^ 17 := by omega
  have hs := hB m.1 (okMove_in hgood).1
  have hst := okMove_step hgood
  have hq : ∀ {c : Cell}, isIn (endB b (pl.take i)) c = true → BdC c := fun {c} hc => bdc_of (hB c (of_decide_eq_true hc)) (by omega)
  refine ⟨?_, ?_, fun c hc => ?_, fun c hc => bdc_of (hB c (mem_rest.mp (a4.sub c hc)).1) (by omega)⟩
  · rw [a1]
    exact bdc_of hs (by omega)
  · rw [a2]
    exact bdc_of (k := 10 ^ 16 + 1000 + ((pl.take i).length : Int) + 1) (by omega) hk
  · obtain ⟨_, h2⟩ := supp_cases a3
    rcases h2 with ⟨_, _, _, he⟩ | ⟨_, g, _, g1, g2, he⟩
    · rw [he] at hc
      rw [List.mem_singleton.mp hc]
      split
      · exact bdc_of (k := 10 ^ 16 + 1000 + ((pl.take i).length : Int) + 1) (by show -_ ≤ m.2.1 ∧ m.2.1 ≤ _ ∧ -_ ≤ m.1.2 ∧ m.1.2 ≤ _; omega) hk
      · exact bdc_of (k := 10 ^ 16 + 1000 + ((pl.take i).length : Int) + 1) (by show -_ ≤ m.1.1 ∧ m.1.1 ≤ _ ∧ -_ ≤ m.2.2 ∧ m.2.2 ≤ _; omega) hk
    · rw [he, srt_mem] at hc
      rcases List.mem_cons.mp hc with hc | hc
      · rw [hc]
        exact hq g1
      · rw [List.mem_singleton.mp hc]
        exact hq g2
theorem Grow.root {cs : List Cell} (h : Grow cs) : ((0, 0) : Cell) ∈ cs := by
  induction h with
  | one => exact List.mem_cons_self
  | more _ _ _ ih => exact List.mem_append_left _ ih
end TB
set_option Elab.async false
set_option linter.all false
set_option maxRecDepth 100000
set_option maxHeartbeats 4000000
/-! D87: a body not far away; the channel. -/
namespace TB
open PySem PySem.Spec PyProof.Rows L2
section
variable {P : Program} {w : World} {K : PySem.W.Frag} {mg : Str → Option Value} {base : Heap}
def spBodyB : Sp := fun vs H Q _ => ∃ (d c : Addr) (n : Nat) (m : Int), vs = [.ref d, .int m] ∧ PenAt H d c n ∧ 2 ≤ m ∧ m ≤ 60 ∧ n < 1000000 ∧ ∀ b v H', Hang b → b.Nodup → (b.length : Int) ≤ m → Nr b → Mv [d] H H' → PenAt H' d c (n + 2000) → En H' v b → Q v H'
theorem ok_law_bodyB (T : Txt K mg "_law_t2_body" "_law_t2_body" s_law_t2_body ["_law_pen_here", "_law_most"]) (Z : Blt mg) (C_law_draw : Cal P w K mg base 1 "_law_draw" ["_law_pen_here", "_law_many"] spDraw) (C_law_pick : Cal P w K mg base 2 "_law_pick" ["_law_pen_here", "_law_some"] spPick)
    (C_law_t2_cells : Cal P w K mg base 4 "_law_t2_cells" ["_law_pen_here", "_law_most"] spCells) : Cal P w K mg base 5 "_law_t2_body" ["_law_pen_here", "_law_most"] spBodyB :=
  T.cal sc_law_t2_body (fun vs H Q E ⟨d, c, n, m, e, _⟩ => by subst e; rfl) fun f cdv A outer s H vs Q E hr h => by
    obtain ⟨d, c, n, m, rfl, hp0, hm1, hm2, hn, q⟩ := h
    refine ⟨_, (pss_cons (ps_par (i := 2) (j := 3) rfl sc_law_t2_body.nd rfl rfl (by decide) rfl rfl (pa_cons (pe_cal C_law_pick (hr.mono (by decide)) (pa_cons (pv 0) (pa_cons (pe_lst (pa_cons pe_int (pa_cons pe_int (pa_cons pe_int (pa_cons (pe_op op_pow pe_int pe_int) pa_nil))))) pa_nil))) (pa_cons (pe_cal C_law_t2_cells (hr.mono (by decide)) (pa_cons (pv 0) (pa_cons (pv 1) pa_nil))) pa_nil)) (by rfl))
      (pss_cons (ps_par (i := 4) (j := 5) rfl sc_law_t2_body.nd rfl rfl (by decide) rfl rfl (pa_cons (pe_tup (pa_cons (pe_op op_mul (pe_op op_sub (pe_cal C_law_draw (hr.mono (by decide)) (pa_cons (pv 0) (pa_cons pe_int pa_nil))) pe_int) (pv 2)) (pa_cons (pe_op op_mul (pe_op op_sub (pe_cal C_law_draw (hr.mono (by decide)) (pa_cons (pv 0) (pa_cons pe_int pa_nil))) pe_int) (pv 2)) pa_nil))) (pa_cons (pe_cmpR op_eq (pe_cal C_law_draw (hr.mono (by decide)) (pa_cons (pv 0) (pa_cons pe_int pa_nil))) pe_int (nomark _)) pa_nil)) (by rfl))
      (pss_cons (ps_set (i := 6) sc_law_t2_body.nd rfl (Or.inl rfl) (pe_lst pa_nil))
      (pss_cons (ps_for PassesOwn.never rfl (pi_list (pv 3)) (pg_tup rfl (pgs_cons (pg_name (i := 7) sc_law_t2_body.nd rfl (Or.inl rfl)) (pgs_cons (pg_name (i := 8) sc_law_t2_body.nd rfl (Or.inl rfl)) pgs_nil))) (pss_one (ps_expr (pe_bm PySem.F.plainAttrs_list PySem.F.slot_list_append PySem.F.type_list_append mt_append (pv 6) (pa_cons (pe_ifExp (pt_val (pv 5)) (pe_tup (pa_cons (pe_op op_add (pv 8) (pe_ix ix_tup (pv 4) pe_int (fun _ _ => rfl))) (pa_cons (pe_op op_add (pv 7) (pe_ix ix_tup (pv 4) pe_int (fun _ _ => rfl))) pa_nil))) (pe_tup (pa_cons (pe_op op_add (pv 7) (pe_ix ix_tup (pv 4) pe_int (fun _ _ => rfl))) (pa_cons (pe_op op_add (pv 8) (pe_ix ix_tup (pv 4) pe_int (fun _ _ => rfl))) pa_nil)))) pa_nil)))))
      (pss_one (ps_ret (pe_callTy call_tuple_of (by rfl) Z.tuple (by decide +kernel) (pa_cons (pe_callB (cr_sortSet rfl (ru64 hr)) (by rfl) Z.sorted (by decide +kernel) (pa_cons (pe_callTy (cr_setOfT rfl (ru64 hr)) (by rfl) Z.set (by decide +kernel) (pa_cons (pv 6) pa_nil)) pa_nil)) pa_nil)))))))), ?_⟩
    refine raw_par (raw_cons (raw_call (raw_cons ⟨.ref d, rfl, raw_cons ((en_lst (xs := [0, 0, 1, 10 ^ (15 : Int).toNat]) (ea_cons ev_int (ea_cons ev_int (ea_cons ev_int (ea_cons (ev_Ic ev_int ev_int ⟨by decide, by decide, by decide⟩) ea_nil)))) (Nat.le_of_ble_eq_true rfl)) H Ex.same _ fun pl H1 n1 e1 hl => ?_)⟩)))
    refine ⟨Int, inferInstance, inferInstance, [0, 0, 1, 10 ^ (15 : Int).toNat], d, c, n, .ref pl, rfl, hp0.up e1, by omega, ⟨pl, rfl, hl⟩, List.cons_ne_nil _ _, (Nat.lt_of_le_of_lt (Nat.le_of_ble_eq_true rfl : _ ≤ 4) (by decide)), fun far vf H2 hfar m2 p2 hvf => ?_⟩
    obtain rfl : vf = .int far := hvf
    refine raw_cons (raw_call ⟨.ref d, rfl, .int m, rfl, d, c, n + 1, m, rfl, p2, hm1, hm2, by omega, fun cs pc H3 hg hcl nc m3 p3 hcs => ⟨_, _, rfl, ?_⟩⟩)
    have hw : ∀ {H s}, EvP (tVar 2) s H (en far) → True := fun _ => trivial
    refine raw_par (raw_cons (raw_tup (raw_cons (raw_op (raw_op (raw_draw (m := 9) p3 (by omega) rfl ev_int (by decide) (by decide) fun x1 H4 x10 x11 m4 p4 => raw_c ⟨x1, 4, rfl, rfl, .int far, rfl, x1 - 4, far, rfl, rfl, .inl (by omega), ?_⟩))))))
    refine raw_cons (raw_op (raw_op (raw_draw (m := 9) p4 (by omega) rfl ev_int (by decide) (by decide) fun x2 H5 x20 x21 m5 p5 => raw_c ⟨x2, 4, rfl, rfl, .int far, rfl, x2 - 4, far, rfl, rfl, .inl (by omega), ⟨(by show 2 ≤ sizeLine; decide), fun pb nb => ?_⟩⟩)))
    have eb := Ex.new (o := HO.tup [V.int ((x1 - 4) * far), V.int ((x2 - 4) * far)]) nb
    have hby : En (upd H5 pb (.tup [V.int ((x1 - 4) * far), V.int ((x2 - 4) * far)])) (.ref pb) (((x1 - 4) * far, (x2 - 4) * far) : Cell) := ⟨pb, _, _, rfl, upd_same, rfl, rfl⟩
    refine raw_cons (raw_op (raw_draw (m := 2) (p5.up eb) (by omega) rfl ev_int (by decide) (by decide) fun x3 H6 x30 x31 m6 p6 => raw_c ⟨rfl, ⟨_, _, rfl, ?_⟩⟩))
    rw [show decide (V.int x3 = V.int 0) = decide (x3 = 0) from dec_V_int]
    have hby6 := en_mv hby m6
    have hcs6 : Ls H6 pc cs := (((hcs.mv (mem1 (p3.ne hcs)) (m4.tr m5)).up eb).mv (mem1 (p3.ne hcs)) m6)
    have mm6 : Mv [d] H H6 := (((((((Mv.same.ex e1).tr m2).tr m3).tr m4).tr m5).ex eb).tr m6)
    have hbB : -10 ^ 16 ≤ (((x1 - 4) * far, (x2 - 4) * far) : Cell).1 ∧ (((x1 - 4) * far, (x2 - 4) * far) : Cell).1 ≤ 10 ^ 16 ∧ -10 ^ 16 ≤ (((x1 - 4) * far, (x2 - 4) * far) : Cell).2 ∧ (((x1 - 4) * far, (x2 - 4) * far) : Cell).2 ≤ 10 ^ 16 := by
      have e15 : (10 : Int) ^ (15 : Int).toNat = 1000000000000000 := by decide
      rw [e15] at hfar
      simp only [List.mem_cons, List.not_mem_nil, or_false] at hfar
      show -10 ^ 16 ≤ (x1 - 4) * far ∧ (x1 - 4) * far ≤ 10 ^ 16 ∧ -10 ^ 16 ≤ (x2 - 4) * far ∧ (x2 - 4) * far ≤ 10 ^ 16
      rcases hfar with h | h | h | h
      · subst h
        omega
      · subst h
        omega
      · subst h
        omega
      · subst h
        omega
    generalize (((x1 - 4) * far, (x2 - 4) * far) : Cell) = by' at hby6 hbB
    generalize decide (x3 = 0) = turned
    refine q_asgN (en_nil (α := Cell)) fun pf H7 nf e7 hf => ?_
    have hpcf : pc ≠ pf := hcs6.ne_new nf
    refine q_forA [pf] (hcs6.up e7) (ev_vr rfl) (mem1 hpcf) fun H8 e8 => ⟨fun i s' H' => ∃ u7 u8, s' = [some (.ref d), some (.int m), some (.int far), some (.ref pc), some (.ref pb), some (.bl turned), some (.ref pf), u7, u8] ∧ Mv [pf] H8 H' ∧ Ls H' pf ((cs.take i).map (moved turned by')), ⟨_, _, rfl, Mv.same, hf.up e8⟩, fun i s' H' ⟨_, _, _, mm, _⟩ => mm, fun i x v s' H' hx hv ⟨u7, u8, es, mm, hfi⟩ => ?_, fun s' H' ⟨u7, u8, es, mm, hfi⟩ => ?_⟩
    · subst es
      refine g_pair hv fun w1 w2 k1 k2 => ?_
      have hby' : En H' (.ref pb) by' := en_mv (en_up (e7.tr e8) hby6) mm
      refine s_app' (x := moved turned by' x) hfi (ev_vr rfl) (ev_if (b := turned) (eb_B (ev_var rfl rfl)) (fun hb => ?_) fun hb => ?_) (by
        rw [List.length_map]
        have := List.length_take_le' i cs
        omega) fun H9 e9 H10 b10 hf10 => ⟨_, _, rfl, (mm.ex e9).but b10 (.inl List.mem_cons_self), ?_⟩
      · unfold moved
        rw [if_pos hb]
        exact ev_pair (ev_I (ev_var rfl k2) (ev_fst (ev_var rfl hby'))) (ev_I (ev_var rfl k1) (ev_snd (ev_var rfl hby')))
      · unfold moved
        rw [if_neg (by rw [hb]; exact Bool.false_ne_true)]
        exact ev_pair (ev_I (ev_var rfl k1) (ev_fst (ev_var rfl hby'))) (ev_I (ev_var rfl k2) (ev_snd (ev_var rfl hby')))
      · rw [take_snoc hx, List.map_append]
        exact hf10
    · subst es
      rw [List.take_length] at hfi
      have hlen : ((cs.map (moved turned by')).length : Int) ≤ m := by
        rw [List.length_map]
        exact hcl
      refine s_ret (ev_tupleL rfl (en_sortS (ev_setL (ev_li rfl hfi) (by omega))).li) fun v H9 e9 hv => ?_
      have hmv : Mv [d] H H' := ((mm6.ex e7).ex e8).trw mm fun a ha => by
        rw [List.mem_singleton.mp ha]
        exact .inr (p6.fresh mm6 nf)
      refine q (sset (cs.map (moved turned by'))) v H9 ((hg.hang.map (f := moved turned by') fun x y => moved_nbs).perm fun x => mem_sset.symm) sset_nodup ?_ ⟨moved turned by' (0, 0), mem_sset.mpr (List.mem_map.mpr ⟨(0, 0), hg.root, rfl⟩), by
        unfold moved
        split
        · show _ ≤ 0 + by'.1 ∧ 0 + by'.1 ≤ _ ∧ _ ≤ 0 + by'.2 ∧ 0 + by'.2 ≤ _
          omega
        · show _ ≤ 0 + by'.1 ∧ 0 + by'.1 ≤ _ ∧ _ ≤ 0 + by'.2 ∧ 0 + by'.2 ≤ _
          omega⟩ (hmv.ex e9) (((p6.up (e7.tr e8)).mv mm (mem1 (p6.new nf).1) (mem1 (p6.new nf).2)).up e9 |>.more (by omega)) hv
      have := nodup_len (xs := sset (cs.map (moved turned by'))) (ys := cs.map (moved turned by')) sset_nodup fun x hx => mem_sset.mp hx
      omega
end
/-! two rows and a square between them -/
def rows : Nat → List Cell
  | 0 => [(0, 1)]
  | n + 1 => rows n ++ [((n : Int), 0), ((n : Int), 2)]
theorem mem_rows {c : Cell} : ∀ {n : Nat}, c ∈ rows n ↔ c = (0, 1) ∨ ∃ k : Nat, k < n ∧ (c = ((k : Int), 0) ∨ c = ((k : Int), 2))
  | 0 => by simp [rows]
  | n + 1 => by
    show c ∈ rows n ++ [((n : Int), 0), ((n : Int), 2)] ↔ _
    rw [List.mem_append, mem_rows (n := n)]
    simp only [List.mem_cons, List.not_mem_nil, or_false]
    constructor
    · rintro ((h | ⟨k, hk, h⟩) | h)
      · exact .inl h
      · exact .inr ⟨k, by omega, h⟩
      · exact .inr ⟨n, by omega, h⟩
    · rintro (h | ⟨k, hk, h⟩)
      · exact .inl (.inl h)
      · by_cases e : k = n
        · subst e
          exact .inr h
        · exact .inl (.inr ⟨k, by omega, h⟩)
def chan (n : Nat) (y : Int) : List Cell := rows n ++ [(2 + y, 1)]
theorem chan_hang {n : Nat} {y : Int} (hn : 3 ≤ n) (y0 : 0 ≤ y) (y1 : y < (n : Int) - 2) : Hang (chan n y) := by
  have hin : ∀ c, c ∈ rows n → c ∈ chan n y := fun c h => List.mem_append_left _ h
  have h01 : ((0, 1) : Cell) ∈ chan n y := hin _ (mem_rows.mpr (.inl rfl))
  have low : ∀ k : Nat, k < n → Reach (· ∈ chan n y) (0, 1) ((k : Int), 0) := fun k => by
    induction k with
    | zero => exact fun h => .step (.refl h01) (by simp [nbs]) (hin _ (mem_rows.mpr (.inr ⟨0, h, .inl rfl⟩)))
    | succ k ih => exact fun h => .step (ih (by omega)) (by simp [nbs]) (hin _ (mem_rows.mpr (.inr ⟨k + 1, h, .inl rfl⟩)))
  have high : ∀ k : Nat, k < n → Reach (· ∈ chan n y) (0, 1) ((k : Int), 2) := fun k => by
    induction k with
    | zero => exact fun h => .step (.refl h01) (by simp [nbs]) (hin _ (mem_rows.mpr (.inr ⟨0, h, .inr rfl⟩)))
    | succ k ih => exact fun h => .step (ih (by omega)) (by simp [nbs]) (hin _ (mem_rows.mpr (.inr ⟨k + 1, h, .inr rfl⟩)))
  refine hang_of h01 fun x hx => ?_
  rcases List.mem_append.mp hx with h | h
  · rcases mem_rows.mp h with e | ⟨k, hk, e | e⟩
    · rw [e]
      exact .refl h01
    · rw [e]
      exact low k hk
    · rw [e]
      exact high k hk
  · rw [List.mem_singleton.mp h]
    obtain ⟨j, rfl⟩ := Int.eq_ofNat_of_zero_le y0
    have := low (j + 2) (by omega)
    refine .step this ?_ (List.mem_append_right _ (List.mem_singleton.mpr rfl))
    simp only [nbs, List.mem_cons, Prod.mk.injEq, List.not_mem_nil, or_false]
    omega
theorem rows_len : ∀ n, (rows n).length = 2 * n + 1
  | 0 => rfl
  | n + 1 => by
    show (rows n ++ [((n : Int), 0), ((n : Int), 2)]).length = _
    rw [List.length_append, rows_len n]
    show 2 * n + 1 + 2 = _
    omega
theorem rows_nd : ∀ n, (rows n).Nodup
  | 0 => by simp [rows]
  | n + 1 => by
    show (rows n ++ [((n : Int), 0), ((n : Int), 2)]).Nodup
    rw [List.nodup_append]
    refine ⟨rows_nd n, by simp, fun a ha b hb e => ?_⟩
    subst e
    simp only [List.mem_cons, List.not_mem_nil, or_false] at hb
    rcases mem_rows.mp ha with h | ⟨k, hk, h | h⟩ <;> rcases hb with g | g <;> rw [g] at h <;> injection h with h1 h2 <;> omega
theorem chan_nd {n : Nat} {y : Int} (y0 : 0 ≤ y) : (chan n y).Nodup := by
  unfold chan
  rw [List.nodup_append]
  refine ⟨rows_nd n, by simp, fun a ha b hb e => ?_⟩
  subst e
  have hb := List.mem_singleton.mp hb
  rcases mem_rows.mp ha with h | ⟨k, hk, h | h⟩ <;> rw [hb] at h <;> injection h with h1 h2 <;> omega
theorem swap_nbs {x y : Cell} (h : y ∈ nbs x) : (y.2, y.1) ∈ nbs (x.2, x.1) := by
  obtain ⟨a, b⟩ := x
  obtain ⟨c, d⟩ := y
  simp only [nbs, List.mem_cons, Prod.mk.injEq, List.not_mem_nil, or_false] at h ⊢
  omega
section
variable {s : TSt} {H : Hp} {t : TT} {ta tb : TE}
theorem raw_ifT {d c : Addr} {n : Nat} {Q : VK} (h3 : ∀ R : Bool → Hp → Prop, (∀ b H2, Mv [d] H H2 → PenAt H2 d c (n + 1) → R b H2) → t s H R)
    (k : ∀ b H2, Mv [d] H H2 → PenAt H2 d c (n + 1) → (b = true → ta s H2 Q) ∧ (b = false → tb s H2 Q)) : tIf t ta tb s H Q := by
  show t s H _
  refine h3 _ fun b H2 m p => ?_
  cases b with
  | true => exact (k true H2 m p).1 rfl
  | false => exact (k false H2 m p).2 rfl
end
section
variable {P : Program} {w : World} {K : PySem.W.Frag} {mg : Str → Option Value} {base : Heap}
abbrev s_law_t2_channel : Stmt := topS 62
abbrev n_law_t2_channel : List Str := ["_law_pen_here", "_law_wide", "_law_cells", "_law_column", "_law_row"]
theorem sc_law_t2_channel : FnScope n_law_t2_channel ["_law_pen_here"] (defScope s_law_t2_channel) := ⟨rfl, rfl, rfl, by decide +kernel, rfl, by decide +kernel, by decide +kernel⟩
def spChannel : Sp := fun vs H Q _ => ∃ (d c : Addr) (n : Nat), vs = [.ref d] ∧ PenAt H d c n ∧ n < 1000000 ∧ ∀ b v H', Hang b → b.Nodup → b.length ≤ 16 → Nr b → Mv [d] H H' → PenAt H' d c (n + 3) → En H' v b → Q v H'
theorem ok_law_channel (T : Txt K mg "_law_t2_channel" "_law_t2_channel" s_law_t2_channel ["_law_pen_here"]) (Z : Blt mg) (C_law_draw : Cal P w K mg base 1 "_law_draw" ["_law_pen_here", "_law_many"] spDraw) : Cal P w K mg base 2 "_law_t2_channel" ["_law_pen_here"] spChannel :=
  T.cal sc_law_t2_channel (fun vs H Q E ⟨_, _, _, e, _⟩ => by subst e; rfl) fun f cdv A outer s H vs Q E hr h => by
    obtain ⟨d, c, n, rfl, hp, hn, q⟩ := h
    refine ⟨_, (pss_cons (ps_par (i := 1) (j := 2) rfl sc_law_t2_channel.nd rfl rfl (by decide) rfl rfl (pa_cons (pe_op op_add pe_int (pe_cal C_law_draw (hr.mono (by decide)) (pa_cons (pv 0) (pa_cons pe_int pa_nil)))) (pa_cons (pe_lst (pa_cons (pe_tup (pa_cons pe_int (pa_cons pe_int pa_nil))) pa_nil)) pa_nil)) (by rfl))
      (pss_cons (ps_for PassesOwn.never rfl (pi_range1 (by rfl) Z.range (pa_cons (pv 1) pa_nil)) (pg_name (i := 3) sc_law_t2_channel.nd rfl (Or.inl rfl)) (pss_one (ps_set (i := 2) sc_law_t2_channel.nd rfl (Or.inl rfl) (pe_op op_cat (pv 2) (pe_lst (pa_cons (pe_tup (pa_cons (pv 3) (pa_cons pe_int pa_nil))) (pa_cons (pe_tup (pa_cons (pv 3) (pa_cons pe_int pa_nil))) pa_nil)))))))
      (pss_cons (ps_expr (pe_bm PySem.F.plainAttrs_list PySem.F.slot_list_append PySem.F.type_list_append mt_append (pv 2) (pa_cons (pe_tup (pa_cons (pe_op op_add pe_int (pe_cal C_law_draw (hr.mono (by decide)) (pa_cons (pv 0) (pa_cons (pe_op op_sub (pv 1) pe_int) pa_nil)))) (pa_cons pe_int pa_nil))) pa_nil)))
      (pss_one (ps_ret (pe_callTy call_tuple_of (by rfl) Z.tuple (by decide +kernel) (pa_cons (pe_callB (cr_sortE (a := Cell) (by decide) (ru64 hr)) (by rfl) Z.sorted (by decide +kernel) (pa_cons (pe_ifExp (pt_cmpR op_eq (pe_cal C_law_draw (hr.mono (by decide)) (pa_cons (pv 0) (pa_cons pe_int pa_nil))) pe_int (nomark _)) (pe_lc (own := [("_law_column", 3), ("_law_row", 4)]) (g := gTup K 2 (gCons (gName 3) (gCons (gName 4) gNil))) (tt := tYes) rfl sc_law_t2_channel.nd (pi_list (pv 2)) (blkOk_by (N := n_law_t2_channel) (sc := defScope s_law_t2_channel) (by decide +kernel)) (fun _ _ _ _ _ => (pg_tup rfl (pgs_cons (pg_name (i := 3) sc_law_t2_channel.nd rfl (Or.inl rfl)) (pgs_cons (pg_name (i := 4) sc_law_t2_channel.nd rfl (Or.inl rfl)) pgs_nil)))) (fun _ _ _ _ _ => pts_nil) (fun _ _ _ _ _ => (pe_tup (pa_cons (pv 4) (pa_cons (pv 3) pa_nil))))) (pv 2)) pa_nil)) pa_nil))))))), ?_⟩
    refine raw_par (raw_cons (raw_op (raw_c (raw_draw (m := 4) hp (by omega) rfl ev_int (by decide) (by decide) fun x H1 x0 x1 m1 p1 => ⟨3, x, rfl, rfl, ?_⟩))))
    obtain ⟨k, hk⟩ : ∃ k : Nat, (3 : Int) + x = (k : Int) := ⟨(3 + x).toNat, by omega⟩
    refine raw_cons ((en_lst (xs := [((0, 1) : Cell)]) (ea_cons (ev_pair ev_int ev_int) ea_nil)) H1 Ex.same _ fun pc H2 n2 e2 hc => ⟨.int (k : Int), .ref pc, by rw [← hk], ?_⟩)
    have hk3 : 3 ≤ k ∧ k ≤ 6 := by omega
    have p2 := p1.up e2
    refine q_forR1 (n := (k : Int)) (ea_cons (ev_var rfl rfl) ea_nil) (by omega) fun H3 e3 => ⟨fun i s' H' => ∃ pc u3, s' = [some (.ref d), some (.int (k : Int)), some (.ref pc), u3, none] ∧ Ex H3 H' ∧ Ls H' pc (rows i) ∧ pc ≠ d ∧ H1 pc = none, ⟨pc, _, rfl, Ex.same, hc.up e3, fun z => (p1.new n2).1 z.symm, n2⟩, fun i s' H' hi ⟨pc, u3, es, eX, hci, hne, hnew⟩ => ?_, fun s' H' ⟨pc, u3, es, eX, hci, hne, hnew⟩ => ?_⟩
    · subst es
      refine s_asgN (xs := rows (i + 1)) (en_cat (ev_li rfl hci) (en_lst (xs := [(((i : Nat) : Int), (0 : Int)), (((i : Nat) : Int), (2 : Int))]) (ea_cons (ev_pair (ev_var rfl rfl) ev_int) (ea_cons (ev_pair (ev_var rfl rfl) ev_int) ea_nil))).li (by
        rw [rows_len]
        show _ + 2 ≤ _
        omega)) fun p H4 n4 e4 h4 => ⟨p, _, rfl, eX.tr e4, h4, fun z => (((p2.up e3).up eX).new n4).1 z.symm, (e2.tr (e3.tr eX)).back n4⟩
    · subst es
      rw [Int.toNat_natCast] at hci
      have p3 := ((p2.up e3).up eX)
      obtain ⟨us, g1, g2⟩ := id hci
      refine raw_seqL ?_
      refine ⟨.ref pc, rfl, .inl ⟨rfl, us, .inl (.inl g1)⟩, raw_cons (raw_tup (raw_cons (raw_op (raw_c (raw_call (raw_cons ⟨.ref d, rfl, raw_cons ((ev_I (g := fun i j => i - j) (i := (k : Int)) (j := 2) (ev_var rfl rfl) ev_int) _ Ex.same _ fun v4 H4 e4 hv4 => ?_)⟩))))))⟩
      obtain rfl : v4 = .int ((k : Int) - 2) := hv4
      refine ⟨d, c, n + 1, (k : Int) - 2, rfl, p3.up e4, by omega, by omega, by omega, fun y H5 y0 y1 m5 p5 => ⟨2, y, rfl, rfl, raw_cons (raw_c ⟨by show 2 ≤ sizeLine; decide, fun T nT => ?_⟩)⟩⟩
      have hc5 : Ls H5 pc (rows k) := (hci.up e4).mv (mem1 hne) m5
      obtain ⟨us5, f1, f2⟩ := hc5.up (Ex.new (o := HO.tup [V.int (2 + y), V.int 1]) nT)
      have hT : En (upd H5 T (.tup [V.int (2 + y), V.int 1])) (.ref T) ((2 + y, 1) : Cell) := ⟨T, _, _, rfl, upd_same, rfl, rfl⟩
      have bt : Bt pc (upd H5 T (.tup [V.int (2 + y), V.int 1])) (upd (upd H5 T (.tup [V.int (2 + y), V.int 1])) pc (.lst (us5 ++ [.ref T]))) := ⟨Tu.mutL f1, fun q hq => upd_ne hq⟩
      refine ⟨pc, us5, .ref T, rfl, rfl, f1, by
        rw [f2.length, rows_len]
        exact sz_lt (by omega), ?_⟩
      have hch : Ls (upd (upd H5 T (.tup [V.int (2 + y), V.int 1])) pc (.lst (us5 ++ [.ref T]))) pc (chan k y) := ⟨_, upd_same, paired_app (paired_map f2 fun _ _ z => Enc.mono bt.tu z) (.cons (Enc.mono bt.tu hT) .nil)⟩
      have pH : PenAt (upd (upd H5 T (.tup [V.int (2 + y), V.int 1])) pc (.lst (us5 ++ [.ref T]))) d c (n + 2) := (p5.up (Ex.new nT)).but bt (p1.new hnew)
      have mH : Mv [d] H (upd (upd H5 T (.tup [V.int (2 + y), V.int 1])) pc (.lst (us5 ++ [.ref T]))) := ((((m1.ex (e2.tr (e3.tr eX))).ex e4).tr m5).ex (Ex.new nT)).but bt (.inr (m1.back (mem1 hne) hnew))
      generalize upd (upd H5 T (.tup [V.int (2 + y), V.int 1])) pc (.lst (us5 ++ [.ref T])) = Hz at hch pH mH
      have hang := chan_hang (n := k) (y := y) (by omega) y0 y1
      have hnd := chan_nd (n := k) (y := y) y0
      have hlen : (chan k y).length = 2 * k + 2 := by
        unfold chan
        rw [List.length_append, rows_len]
        rfl
      have h01 : ((0, 1) : Cell) ∈ chan k y := List.mem_append_left _ (mem_rows.mpr (.inl rfl))
      have fin : ∀ (L : List Cell) (pl : Addr) (H6 : Hp), Hang L → L.Nodup → L.length ≤ 16 → Nr L → Mv [d] H H6 → PenAt H6 d c (n + 3) → Ls H6 pl L → tCB (rTupK K) (tCons (tCB (rSortE Cell) (tCons (tC (.ref pl)) tNil)) tNil) [] H6 Q := fun L pl H6 hL hn' hl' hnr m6 p6 hpl => by
        refine (ev_tupleL (xs := srt L) rfl (en_sort (xs := L) (fun H7 e7 Q' q' => q' (.ref pl) H7 Ex.same ⟨pl, rfl, hpl.up e7⟩) (.inl fun x _ => ⟨_, _, rfl⟩)).li) H6 Ex.same Q fun v H7 e7 hv => ?_
        obtain ⟨r, hr, r1⟩ := hnr
        exact q (srt L) v H7 (hL.perm fun x => srt_mem.symm) ((srt_perm L).nodup_iff.mpr hn') (by rw [srt_len]; exact hl') ⟨r, srt_mem.mpr hr, r1⟩ (m6.ex e7) (p6.up e7) hv
      dsimp only
      refine raw_ret (raw_CB (raw_cons (raw_CB (raw_cons (raw_ifT (d := d) (c := c) (n := n + 2) (fun R r => ⟨.ref d, rfl, d, c, n + 2, 2, rfl, pH, by omega, by decide, by decide, fun z H6 z0 z1 m6 p6 => ⟨rfl, _, rfl, r _ H6 m6 p6⟩⟩) fun b6 H6 m6 p6 => ⟨fun _ => ?_, fun _ => ?_⟩)))))
      · refine ((en_lcP (p := fun _ => true) (f := fun x : Cell => (x.2, x.1)) (ev_li rfl (hch.mv (mem1 hne) m6)) (by omega) fun x u w H' hx e hu hw => ⟨eb_yes, fun _ => ev_pair (ev_var rfl hw) (ev_var rfl hu)⟩).is (ys := (chan k y).map fun x : Cell => (x.2, x.1)) (by rw [List.filter_eq_self.mpr fun _ _ => rfl])) H6 Ex.same _ fun pl H7 n7 e7 hpl => ?_
        have := fin ((chan k y).map fun x : Cell => (x.2, x.1)) pl H7 (hang.map fun x y h => swap_nbs h) (List.pairwise_map.mpr (hnd.imp fun {a b} h z => h (by
          injection z with z1 z2
          exact Prod.ext z2 z1))) (by rw [List.length_map]; omega) ⟨(1, 0), List.mem_map.mpr ⟨(0, 1), h01, rfl⟩, by decide⟩ ((mH.tr m6).ex e7) (p6.up e7) hpl
        exact this
      · have := fin (chan k y) pc H6 hang hnd (by omega) ⟨(0, 1), h01, by decide⟩ (mH.tr m6) p6 (hch.mv (mem1 hne) m6)
        exact ⟨_, rfl, this⟩
end
end TB
set_option Elab.async false
set_option linter.all false
set_option maxRecDepth 100000
set_option maxHeartbeats 4000000
/-! D88: helpers of the law k44. -/
namespace TB
open PySem PySem.Spec PyProof.Rows L2
theorem bods_k (b : List Cell) : ∀ (pl : List (Cell × Cell)) {k : Nat}, k ≤ pl.length → (bods b pl)[k]? = some (endB b (pl.take k)) := fun pl => by
  induction pl using snocInd with
  | h0 =>
    intro k hk
    have : k = 0 := by simpa using hk
    subst this
    rfl
  | h1 r x ih =>
    intro k hk
    rw [bods_snoc]
    by_cases e : k ≤ r.length
    · rw [List.getElem?_append_left (by rw [bods_len]; omega), List.take_append_of_le_length e]
      exact ih e
    · have hk' : k = r.length + 1 := by
        rw [List.length_append, List.length_singleton] at hk
        omega
      subst hk'
      rw [List.getElem?_append_right (by rw [bods_len]; exact Nat.le_refl _), bods_len, Nat.sub_self, List.take_of_length_le (by rw [List.length_append, List.length_singleton]; exact Nat.le_refl _)]
      rfl
section
variable {K : PySem.W.Frag} {s : TSt} {H : Hp} {ta tb te tl : TE} {t3 : TT} {D : Ends} {u tu : TS} {α β : Type} [DecidableEq α] [Enc α] [DecidableEq β] [Enc β]
/-- for x, y in zip(xs, ys) -/
theorem q_forZ {xs : List α} {ys : List β} {i j : Nat} {a b : Addr} (S : List Addr) (hla : Ls H a xs) (hlb : Ls H b ys) (ha : EvP ta s H (va (.ref a))) (hb : EvP tb s H (va (.ref b))) (hna : a ∉ S) (hnb : b ∉ S) (k : ∀ H1, Ex H H1 → ∃ Pv : Nat → TSt → Hp → Prop, Pv 0 s H1 ∧ (∀ n s' H', Pv n s' H' → Mv S H1 H') ∧
      (∀ n x y v w s' H' H'', xs[n]? = some x → ys[n]? = some y → En H'' v x → En H'' w y → Ex H' H'' → Pv n s' H' → tu (turnEnds { D with nx := u D } Pv n) ((s'.set i (some v)).set j (some w)) H'') ∧ (∀ s' H', Pv (min xs.length ys.length) s' H' → u D s' H')) : tSeq (tFor (iZip K (tCons ta (tCons tb tNil))) (gTup K 2 (gCons (gName i) (gCons (gName j) gNil))) tu) u D s H :=
  ha H Ex.same _ fun v0 H0 e0 hv0 => hb H0 e0 _ fun w0 H1 e1 hw0 => by
    obtain rfl : v0 = .ref a := hv0
    obtain rfl : w0 = .ref b := hw0
    obtain ⟨us, hua, hup⟩ := hla.up (e0.tr e1)
    obtain ⟨ws, hwb, hwp⟩ := hlb.up (e0.tr e1)
    obtain ⟨Pv, h0, ht, hs, hd⟩ := k H1 (e0.tr e1)
    have l1 := hup.length
    have l2 := hwp.length
    refine ⟨a, b, us, ws, rfl, .inl (.inl hua), .inl (.inl hwb), for_it (walk_zip (K := K) (a := a) (b := b) (xs := us) (ys := ws) rfl) Pv h0 (fun n s' H' _ P => ⟨.inl (.inl ((ht n s' H' P).ch _ _ hna hua)), .inl (.inl ((ht n s' H' P).ch _ _ hnb hwb))⟩) (fun n x s' H' H'' hlt P y => ?_) fun s' H' P => hd s' H' (by rw [← l1, ← l2]; exact P)⟩
    obtain ⟨T, z1, z2, rfl, nT, rfl, f1, f2⟩ := y
    obtain ⟨x, hx, hr⟩ := paired_getL hup f1
    obtain ⟨y, hy, hq⟩ := paired_getL hwp f2
    have m := ht n s' H' P
    refine ⟨T, [z1, z2], rfl, .inl (.inl upd_same), rfl, _, [z2], rfl, _, [], rfl, rfl, ?_⟩
    exact hs n x y z1 z2 s' H' _ hx hy (en_up (Ex.new nT) (en_mv hr m)) (en_up (Ex.new nT) (en_mv hq m)) (Ex.new nT) P
/-- if (a draw): .. -/
theorem q_if1 {d c : Addr} {n : Nat} (h3 : ∀ Q : Bool → Hp → Prop, (∀ b H2, Mv [d] H H2 → PenAt H2 d c (n + 1) → Q b H2) → t3 s H Q)
    (yes : ∀ H2, Mv [d] H H2 → PenAt H2 d c (n + 1) → tu { D with nx := u D } s H2) (no : ∀ H2, Mv [d] H H2 → PenAt H2 d c (n + 1) → u D s H2) : tSeq (tIfS t3 tu tNext) u D s H := by
  show t3 s H _
  refine h3 _ fun b H2 m p => ?_
  cases b with
  | true => exact yes H2 m p
  | false => exact no H2 m p
/-- [e for x in t if ..], where no item passes -/
theorem en_lcNone {γ : Type} {R : Rl γ} {tt : TT} {i : Nat} {vs : List Nat} {xs : List γ} (h : EvP tl s H (tr R xs)) (hl : xs.length ≤ 1000000)
    (hb : ∀ x u H', x ∈ xs → Ex H H' → R.r H' u x → EvB tt ((wipe s vs).set i (some u)) H' false)
    (hw : ∀ u, wipe ((wipe s vs).set i (some u)) vs = wipe s vs := by intro u; rfl) : EvN (α := α) (tLc (iTup K tl) (gName i) tt te vs) s H [] := fun H1 e Q q =>
  h H1 e _ fun v H2 e2 ⟨a, ev, us, ha, hp⟩ => by
    subst ev
    refine ⟨a, rfl, ⟨us, .inl (.inl ha)⟩, fun D hD => lc_tup (K := K) (a := a) (xs := us) (fun _ H' => Ex H2 H' ∧ H' D = some (.lst [])) ⟨Ex.new hD, upd_same⟩ (fun i H' _ I => .inl (.inl (I.1 _ _ ha))) (fun i u H' hu I => ?_) fun H' I => ?_⟩
    · obtain ⟨x, hx, hr⟩ := paired_getL hp hu
      refine ⟨hw u, hb x u H' (List.mem_of_getElem? hx) ((e.tr e2).tr I.1) (R.up I.1 hr) H' Ex.same _ fun H3 e3 => ?_⟩
      rw [if_neg Bool.false_ne_true]
      exact ⟨I.1.tr e3, e3 _ _ I.2⟩
    · exact q D H' (e2.back hD) (e2.tr I.1) ⟨[], I.2, .nil⟩
/-- xs + ys, items told by R -/
theorem cat_atR {γ : Type} {R : Rl γ} {p q : Addr} {xs ys : List γ} {Q : VK} (h1 : LsR R H p xs) (h2 : LsR R H q ys) (hl : xs.length + ys.length ≤ 1000000) (k : ∀ z H', H z = none → Ex H H' → LsR R H' z (xs ++ ys) → Q (.ref z) H') : rCat (.ref p) (.ref q) H Q := by
  obtain ⟨us, a1, a2⟩ := h1
  obtain ⟨ws, b1, b2⟩ := h2
  exact ⟨p, q, us, ws, rfl, rfl, a1, b1, by rw [a2.length, b2.length]; exact sz_of hl, fun z hz => k z _ hz (Ex.new hz) ⟨_, upd_same, paired_map (paired_app a2 b2) fun _ _ w => R.up (Ex.new hz) w⟩⟩
end
theorem ls_it2 {H : Hp} {p : Addr} {xs : List (Cell × Cell)} (h : Ls H p xs) : LsR it2R H p (xs.map It2.ok) := by
  obtain ⟨us, h1, h2⟩ := h
  refine ⟨us, h1, ?_⟩
  clear h1
  induction h2 with
  | nil => exact .nil
  | cons x _ ih => exact .cons x ih
theorem oe_pen {H H' : Hp} {v : V} {d c : Addr} {n : Nat} {o : Oe} (p : PenAt H d c n) (m : Mv [d] H H') (h : OeAt H v o) : OeAt H' v o := OeAt.mv m (fun a ha us z => by
  obtain ⟨_, _, _, _, _, pd, _⟩ := p
  rw [List.mem_singleton.mp ha, pd] at z
  cases z) h
/-- the class of the steps, as isinstance sees it -/
structure IsS (K : PySem.W.Frag) (C : Addr) : Prop where
  ha : PySem.W.findIn K (.ref C) "__class__" = some (some (.builtin "object.__class__"))
  hn : PySem.W.specialIn K (.builtin "object.__class__") "__get__" = some (some (.builtin "getset_descriptor.__get__"))
  htk : PySem.W.takesIn K (.builtin "object.__class__") = some true
  hm : PySem.W.mroIn K C (.type "object") = some true
theorem kit_self {K : PySem.W.Frag} {C : Addr} : PySem.W.kitOne K (.ref C) (.ref C) = some true := by
  unfold PySem.W.kitOne
  rw [if_pos (by simp)]
section
variable {K : PySem.W.Frag} {s : TSt} {H : Hp} {ta : TE} {C : Addr} {p : Paper}
theorem ev_isStep (T : ClsT K C) (I : IsS K C) (h : EvP ta s H (st C p)) : EvP (tCB (rIsi K) (tCons ta (tCons (tC (.ref C)) tNil))) s H (en true) := fun H1 e Q q =>
  h H1 e _ fun v H2 e2 ⟨a, dx, u1, u2, u3, u4, ev, h0, _⟩ => by
    subst ev
    exact ⟨.ref a, .ref C, .ref C, .ref C, true, rfl, .own C, .base (.ins h0 T.cl I.ha I.hn I.htk I.hm), kit_self, q _ H2 e2 rfl⟩
end
section
variable {P : Program} {w : World} {K : PySem.W.Frag} {mg : Str → Option Value} {base : Heap} {C : Addr}
def spPlanOfA (C : Addr) : Sp := S1 fun P1 Pz => (∃ ps : List Paper, P1 = tr (stR C) ps ∧ ps.length ≤ 1000 ∧ Pz = en (pms ps)) ∨ (P1 = lr (stR C) [] ∧ Pz = en ([] : List (Cell × Cell)))
theorem ok_plan_ofA (T : Txt K mg "plan_of" "plan_of" s_plan_of ["steps"]) (Z : Blt mg) (TC : ClsT K C) : Cal P w K mg base 1 "plan_of" ["steps"] (spPlanOfA C) :=
  T.cal sc_plan_of S1.len fun f cdv A outer s H vs Q E hr h => by
    obtain ⟨v, P1, Pz, rfl, h, hv, q⟩ := h
    rcases h with ⟨ps, rfl, hlen, rfl⟩ | ⟨rfl, rfl⟩
    · refine ⟨_, (pss_one (ps_ret (pe_callTy call_tuple_of (by rfl) Z.tuple (by decide +kernel) (pa_cons (pe_lc (own := [("step", 1)]) (g := gName 1) (tt := tYes) rfl sc_plan_of.nd (pi_tup (pv 0)) (blkOk_by (N := n_plan_of) (sc := defScope s_plan_of) (by decide +kernel)) (fun _ _ _ _ _ => (pg_name (i := 1) sc_plan_of.nd rfl (Or.inl rfl))) (fun _ _ _ _ _ => pts_nil) (fun _ _ _ _ _ => (pe_tup (pa_cons (pe_fld (pv 1) rfl : PE _ _ (tFld K _ "start")) (pa_cons (pe_fld (pv 1) rfl : PE _ _ (tFld K _ "end")) pa_nil))))) pa_nil)))), ?_⟩
      refine s_ret (P := en (pms ps)) (ev_tupleL rfl ((ew_lcRT (R := stR C) (R2 := enR (Cell × Cell)) (f := mvOf) (xs := ps) (ev_var rfl hv) (by omega) (fun x u H' hx e hu => ?_) (by intro u; rfl)).p.to fun _ _ h => lr_li h)) fun v H3 e3 hv => q v H3 e3 hv
      have hu' : StepAt C H' u x := hu
      exact ev_pair (ev_fS TC (ev_var rfl hu')) (ev_fE TC (ev_var rfl hu'))
    · refine ⟨_, (pss_one (ps_ret (pe_callTy call_tuple_of (by rfl) Z.tuple (by decide +kernel) (pa_cons (pe_lc (own := [("step", 1)]) (g := gName 1) (tt := tYes) rfl sc_plan_of.nd (pi_list (pv 0)) (blkOk_by (N := n_plan_of) (sc := defScope s_plan_of) (by decide +kernel)) (fun _ _ _ _ _ => (pg_name (i := 1) sc_plan_of.nd rfl (Or.inl rfl))) (fun _ _ _ _ _ => pts_nil) (fun _ _ _ _ _ => (pe_tup (pa_cons (pe_fld (pv 1) rfl : PE _ _ (tFld K _ "start")) (pa_cons (pe_fld (pv 1) rfl : PE _ _ (tFld K _ "end")) pa_nil))))) pa_nil)))), ?_⟩
      refine s_ret (P := en ([] : List (Cell × Cell))) (ev_tupleL rfl ((ew_lcR (R := stR C) (R2 := enR (Cell × Cell)) (f := mvOf) (xs := []) (ev_var rfl hv) (by decide) (fun x u H' hx e hu => by cases hx) (by intro u; rfl)).p.to fun _ _ h => lr_li h)) fun v H3 e3 hv => q v H3 e3 hv
end
/-! the ends that are no cells, in a list -/
def odl : Pd := ⟨fun H v => ∃ R us, v = .ref R ∧ H R = some (.lst us) ∧ Paired (OeAt H) us [.n, .five, .l01, .tA], fun e ⟨R, us, h1, h2, h3⟩ => ⟨R, us, h1, e _ _ h2, paired_map h3 fun _ _ z => OeAt.up e z⟩⟩
section
variable {s : TSt} {H : Hp}
theorem ev_odl : EvP (tLst (tCons (tC .non) (tCons (tC (.int 5)) (tCons (tLst (tCons (tC (.int 0)) (tCons (tC (.int 1)) tNil))) (tCons (tTup (tCons (tC (.str "a")) (tCons (tC (.int 0)) tNil))) tNil))))) s H odl := fun H1 e Q q => by
  refine raw_lst (raw_cons (raw_c (raw_cons (raw_c (raw_cons ?_)))))
  refine raw_lst (raw_cons (raw_c (raw_cons (raw_c ⟨by show 2 ≤ sizeLine; decide, fun L nL => ?_⟩))))
  refine raw_cons (raw_tup (raw_cons (raw_c (raw_cons (raw_c ⟨by show 2 ≤ sizeLine; decide, fun T nT => ?_⟩)))))
  refine ⟨by show 4 ≤ sizeLine; decide, fun R nR => q _ _ (((Ex.new nL).tr (Ex.new nT)).tr (Ex.new nR)) ⟨R, _, rfl, upd_same, .cons rfl (.cons rfl (.cons ⟨L, rfl, ?_⟩ (.cons ⟨T, rfl, ?_⟩ .nil)))⟩⟩
  · exact (Ex.new nR) _ _ ((Ex.new nT) _ _ upd_same)
  · exact (Ex.new nR) _ _ upd_same
theorem raw_pickO {d c : Addr} {n i : Nat} {tb : TE} {E : XK} {Q : VK} (hd : s[i]? = some (some (.ref d))) (hx : EvP tb s H odl) (hp : PenAt H d c n) (hn : n < 1000000000)
    (k : ∀ o u H2, Mv [d] H H2 → PenAt H2 d c (n + 1) → OeAt H2 u o → Q u H2) : tCall spPickV [] E (tCons (tVar i) (tCons tb tNil)) s H Q :=
  raw_call (raw_cons ⟨.ref d, hd, raw_cons (hx H Ex.same _ fun v H1 e1 ⟨R, us, ev, hR, hus⟩ => by
    subst ev
    have hlen : us.length = 4 := hus.length
    exact ⟨us, d, c, R, n, rfl, hp.up e1, hn, .inl hR, (fun z => by rw [z] at hlen; cases hlen), by omega, fun u H2 hu m p => by
      obtain ⟨o, _, ho⟩ := paired_mem hus hu
      exact k o u H2 ((Mv.same.ex e1).tr m) p (oe_pen (hp.up e1) m ho)⟩)⟩)
end
/-- ("told", papers), the papers told by C -/
def tlX (C : List Paper → Prop) : Pd := ⟨fun H v => ∃ xs, C xs ∧ (tlp xs).p H v, fun e ⟨xs, h1, h2⟩ => ⟨xs, h1, (tlp xs).up e h2⟩⟩
theorem ev_tlX {s : TSt} {H : Hp} {te : TE} {C : List Paper → Prop} (h : EvP te s H (liX C)) : EvP (tTup (tCons (tC (.str "told")) (tCons te tNil))) s H (tlX C) := fun H1 e Q q =>
  h H1 e _ fun v H2 e2 ⟨xs, hC, p, ev, hv⟩ => ⟨by show 2 ≤ sizeLine; decide, fun T nT => q _ _ (e2.tr (Ex.new nT)) ⟨xs, hC, T, p, rfl, by rw [ev]; exact upd_same, hv.up (Ex.new nT)⟩⟩
section
variable {s : TSt} {H : Hp} {b : List Cell} {vb v2 : V} {i j : Nat} {E : XK}
theorem ev_stN {plan : List (Cell × Cell)} {k : Nat} {m : Cell × Cell} (h1 : s[i]? = some (some vb)) (h2 : s[j]? = some (some v2)) (hb : En H vb b) (hl : b.length ≤ 1000) (hh : Hang b) (hp : (li plan).p H v2) (hpl : plan.length ≤ 100) (hm : plan[k]? = some m) (hok : okPlan b (plan.take k) = true) (hbad : okMove (endB b (plan.take k)) m.1 m.2 = false) :
    EvP (tCall spStepsTold [] E (tCons (tVar i) (tCons (tVar j) tNil))) s H (npP (k : Int)) := fun H1 e Q q =>
  raw_call (raw_cons ⟨vb, h1, raw_cons ⟨v2, h2, ⟨vb, v2, b, rfl, en_up e hb, hl, hh, .inr (.inl ⟨plan, k, m, (li plan).up e hp, hpl, hm, hok, hbad, fun u H' e' hu => q u H' e' hu⟩)⟩⟩⟩)
theorem ev_stT {plan : List (Cell × Cell)} {ps : List Paper} (h1 : s[i]? = some (some vb)) (h2 : s[j]? = some (some v2)) (hb : En H vb b) (hl : b.length ≤ 1000) (hh : Hang b) (hp : (li plan).p H v2) (hpl : plan.length ≤ 100) (hok : okPlan b plan = true) (hx : PapX b plan ps) :
    EvP (tCall spStepsTold [] E (tCons (tVar i) (tCons (tVar j) tNil))) s H (tlp ps) := fun H1 e Q q =>
  raw_call (raw_cons ⟨vb, h1, raw_cons ⟨v2, h2, ⟨vb, v2, b, rfl, en_up e hb, hl, hh, .inl ⟨plan, ps, (li plan).up e hp, hpl, hok, hx, fun u H' e' hu => q u H' e' hu⟩⟩⟩⟩)
theorem ev_stO {k : Nat} {tb : TE} {P : Pd} (h1 : s[i]? = some (some vb)) (hx : EvP tb s H P) (hb : En H vb b) (hl : b.length ≤ 1000) (hh : Hang b) (ho : ∀ v H', Ex H H' → P.p H' v → OddPlan H' v b k) :
    EvP (tCall spStepsTold [] E (tCons (tVar i) (tCons tb tNil))) s H (npP (k : Int)) := fun H1 e Q q =>
  raw_call (raw_cons ⟨vb, h1, raw_cons (hx H1 e _ fun v2 H2 e2 hv => ⟨vb, v2, b, rfl, en_up (e.tr e2) hb, hl, hh, .inr (.inr ⟨k, ho v2 H2 (e.tr e2) hv, fun u H' e' hu => q u H' (e2.tr e') hu⟩)⟩)⟩)
end
/-! the changed plan -/
def chg {α : Type} (xs : List α) (k : Nat) (x : α) : List α := xs.take k ++ [x] ++ xs.drop (k + 1)
theorem chg_len {α : Type} {xs : List α} {k : Nat} {x : α} (h : k < xs.length) : (chg xs k x).length = xs.length := by
  unfold chg
  rw [List.length_append, List.length_append, List.length_take, List.length_drop, List.length_singleton]
  omega
theorem cut_toA {α : Type} [DecidableEq α] [Enc α] {l : List α} {k : Nat} (h : k ≤ l.length) : cut l none (some (k : Int)) = l.take k := by
  unfold cut
  rw [HT.sIx_nat, HT.sIx_none, List.drop_zero, Nat.sub_zero, Nat.min_eq_left h]
theorem cut_fromA {α : Type} [DecidableEq α] [Enc α] {l : List α} {k : Nat} (h : k ≤ l.length) : cut l (some (k : Int)) none = l.drop k := by
  unfold cut
  rw [HT.sIx_nat, HT.sIx_none, Nat.min_eq_left h]
  exact List.take_of_length_le (by rw [List.length_drop]; exact Nat.le_refl _)
/-- a tuple of the changed pairs -/
theorem odd_plan {H : Hp} {b : List Cell} {pl : List (Cell × Cell)} {k : Nat} {p : Addr} {c : Cell} {w : V} {o : Oe} (hok : okPlan b pl = true) (hk : k < pl.length) (hl : pl.length ≤ 1000) (h : TpR it2R H p ((pl.take k).map It2.ok ++ [.odd c w] ++ (pl.drop (k + 1)).map It2.ok)) (ho : OeAt H w o) : OddPlan H (.ref p) b k := by
  have l1 : ((pl.take k).map It2.ok).length = k := by
    rw [List.length_map, List.length_take]
    omega
  refine ⟨p, _, c, w, o, rfl, h, ?_, fun i hi => ?_, ?_, ho, pl.take k, by rw [List.length_take]; omega, okPlan_pre hok k, fun i m hi hm => ?_⟩
  · rw [List.length_append, List.length_append, l1, List.length_map, List.length_drop, List.length_singleton]
    omega
  · refine ⟨(pl.take k)[i]'(by rw [List.length_take]; omega), ?_⟩
    rw [List.getElem?_append_left (by rw [List.length_append, l1]; omega), List.getElem?_append_left (by omega), List.getElem?_map, List.getElem?_eq_getElem (by rw [List.length_take]; omega)]
    rfl
  · rw [List.getElem?_append_left (by rw [List.length_append, l1, List.length_singleton]; omega), List.getElem?_append_right (by omega), l1, Nat.sub_self]
    rfl
  · rw [List.getElem?_append_left (by rw [List.length_append, l1]; omega), List.getElem?_append_left (by omega), List.getElem?_map] at hm
    cases hz : (pl.take k)[i]? with
    | none =>
      rw [hz] at hm
      cases hm
    | some m' =>
      rw [hz] at hm
      have hm : some (It2.ok m') = some (It2.ok m) := hm
      injection hm with hm
      injection hm with hm
      rw [hm]
end TB
set_option Elab.async false
set_option linter.all false
set_option maxRecDepth 100000
set_option maxHeartbeats 8000000
/-! D89: the law k44. -/
namespace TB
open PySem PySem.Spec PyProof.Rows L2
/-- what the law holds in its hands -/
structure Pw (C d c : Addr) (b : List Cell) (pl : List (Cell × Cell)) (ps : List Paper) (vb vt : V) (pp pq pa : Addr) (n : Nat) (H : Hp) : Prop where
  pen : PenAt H d c n
  vb : En H vb b
  pp : Ls H pp pl
  pq : Ls H pq (bods b pl)
  pa : Ls H pa ps
  vt : (tr (stR C) ps).p H vt
section
variable {C d c : Addr} {b : List Cell} {pl : List (Cell × Cell)} {ps : List Paper} {vb vt : V} {pp pq pa : Addr} {n k : Nat} {H H' : Hp}
theorem Pw.up (h : Pw C d c b pl ps vb vt pp pq pa n H) (e : Ex H H') : Pw C d c b pl ps vb vt pp pq pa n H' := ⟨h.pen.up e, en_up e h.vb, h.pp.up e, h.pq.up e, h.pa.up e, (tr (stR C) ps).up e h.vt⟩
end
section
variable {P : Program} {w : World} {K : PySem.W.Frag} {mg : Str → Option Value} {base : Heap} {C CN : Addr}
abbrev s_law : Stmt := topS 63
abbrev n_law : List Str := ["_law_script", "_law_pen_here", "_law_lap", "_law_body", "_law_turn", "_law_start", "_law_plan", "_law_bodies", "_law_papers", "_law_steps", "_law_paper", "_law_here", "_law_near", "_law_k", "_law_other", "_law_wrong", "_law_due", "_law_one", "_law_cell"]
theorem sc_law : FnScope n_law ["_law_script"] (defScope s_law) := ⟨rfl, rfl, rfl, by decide +kernel, rfl, by decide +kernel, by decide +kernel⟩
def spLaw44 (K : PySem.W.Frag) : Sp := fun vs H Q _ => ∃ (a : Addr) (xs : List Int), vs = [.ref a] ∧ SqL K H a (xs.map V.int) ∧ xs.length ≤ 63 ∧ ∀ H', Q (.bl true) H'
theorem ok_law {fl : Addr} {fdl : FuncData} (T : Fun K "law" "law" s_law fl fdl) (Z : BltR mg) (TC : ClsT K C) (IS : IsS K C) (gS : mg "Step" = some (.ref C)) (C_law_pen : Cal P w K mg base 1 "_law_pen" ["_law_script"] (spPen K)) (C_law_draw : Cal P w K mg base 1 "_law_draw" ["_law_pen_here", "_law_many"] spDraw)
    (C_law_t2_body : Cal P w K mg base 5 "_law_t2_body" ["_law_pen_here", "_law_most"] spBodyB) (C_law_t2_channel : Cal P w K mg base 2 "_law_t2_channel" ["_law_pen_here"] spChannel) (C_law_t2_plan : Cal P w K mg base 6 "_law_t2_plan" ["_law_pen_here", "_law_body", "_law_many"] spPlan)
    (C_law_pick : Cal P w K mg base 2 "_law_pick" ["_law_pen_here", "_law_some"] spPickV) (C_law_t2_around : Cal P w K mg base 1 "_law_t2_around" ["_law_cell"] spAround) (C_law_t2_beside : Cal P w K mg base 1 "_law_t2_beside" ["_law_cell"] spBesideL)
    (C_law_t2_asked : Cal P w K mg base 9 "_law_t2_asked" ["_law_body", "_law_start"] spAskedW) (C_law_t2_due : Cal P w K mg base 4 "_law_t2_due" ["_law_body", "_law_start"] spAskedW)
    (C_law_t2_papers : Cal P w K mg base 3 "_law_t2_papers" ["_law_body", "_law_plan"] spPapersX) (C_steps_of : CalX P w K mg base 13 "steps_of" ["body", "plan"] (spStepsOf C CN)) (C_law_t2_told_papers : Cal P w K mg base 1 "_law_t2_told_papers" ["_law_steps"] (spToldPapers C))
    (C_plan_of : Cal P w K mg base 1 "plan_of" ["steps"] (spPlanOfA C)) (C_first_loose : Cal P w K mg base 11 "first_loose" ["body", "steps"] (spFlG C)) (C_law_t2_hangs : Cal P w K mg base 3 "_law_t2_hangs" ["_law_cells"] spHangsT)
    (C_law_t2_first_wrong : Cal P w K mg base 6 "_law_t2_first_wrong" ["_law_body", "_law_plan"] spFirstWrong) (C_law_t2_steps_told : Cal P w K mg base 14 "_law_t2_steps_told" ["_law_body", "_law_plan"] spStepsTold) :
    FnC P w K mg base fl fdl ["_law_script"] (spLaw44 K) :=
  fnC_of (k := 14) T sc_law (fun vs H Q E ⟨a, xs, e, _⟩ => by subst e; rfl) ⟨rfl, by decide, by decide⟩ fun cdv A outer s H vs Q E hgd hr h => by
    obtain ⟨a, scr, rfl, hS, hlen, q⟩ := h
    refine ⟨_, (pss_cons (ps_set (i := 1) sc_law.nd rfl (Or.inl rfl) (pe_cal C_law_pen (hr.mono (by decide)) (pa_cons (pv 0) pa_nil)))
      (pss_cons (ps_for PassesOwn.never rfl (pi_range1 (by rfl) Z.range (pa_cons pe_int pa_nil)) (pg_name (i := 2) sc_law.nd rfl (Or.inl rfl)) (pss_cons (ps_set (i := 3) sc_law.nd rfl (Or.inl rfl) (pe_ifExp (pt_cmpR op_gt (pe_cal C_law_draw (hr.mono (by decide)) (pa_cons (pv 1) (pa_cons pe_int pa_nil))) pe_int (nomark _)) (pe_cal C_law_t2_body (hr.mono (by decide)) (pa_cons (pv 1) (pa_cons pe_int pa_nil))) (pe_cal C_law_t2_channel (hr.mono (by decide)) (pa_cons (pv 1) pa_nil))))
      (pss_cons (ps_for PassesOwn.never rfl (pi_range1 (by rfl) Z.range (pa_cons pe_int pa_nil)) (pg_name (i := 4) sc_law.nd rfl (Or.inl rfl)) (pss_cons (ps_set (i := 5) sc_law.nd rfl (Or.inl rfl) (pe_cal C_law_pick (hr.mono (by decide)) (pa_cons (pv 1) (pa_cons (pv 3) pa_nil))))
      (pss_cons (ps_if (pt_cmpR op_eq (pe_cal C_law_draw (hr.mono (by decide)) (pa_cons (pv 1) (pa_cons pe_int pa_nil))) pe_int (nomark _)) (pss_one (ps_set (i := 5) sc_law.nd rfl (Or.inl rfl) (pe_cal C_law_pick (hr.mono (by decide)) (pa_cons (pv 1) (pa_cons (pe_cal C_law_t2_around (hr.mono (by decide)) (pa_cons (pv 5) pa_nil)) pa_nil))))) pss_nil)
      (pss_one (ps_if (pt_cmpR (op_neD (ru64 hr)) (pe_cal C_law_t2_asked (hr.mono (by decide)) (pa_cons (pv 3) (pa_cons (pv 5) pa_nil))) (pe_cal C_law_t2_due (hr.mono (by decide)) (pa_cons (pv 3) (pa_cons (pv 5) pa_nil))) (nomark _)) (pss_one (ps_ret pe_bl)) pss_nil)))))
      (pss_cons (ps_asg (pe_cal C_law_t2_plan (hr.mono (by decide)) (pa_cons (pv 1) (pa_cons (pv 3) (pa_cons (pe_cal C_law_draw (hr.mono (by decide)) (pa_cons (pv 1) (pa_cons pe_int pa_nil))) pa_nil)))) (pg_tup rfl (pgs_cons (pg_name (i := 6) sc_law.nd rfl (Or.inl rfl)) (pgs_cons (pg_name (i := 7) sc_law.nd rfl (Or.inl rfl)) pgs_nil))))
      (pss_cons (ps_par (i := 8) (j := 9) rfl sc_law.nd rfl rfl (by decide) rfl rfl (pa_cons (pe_cal C_law_t2_papers (hr.mono (by decide)) (pa_cons (pv 3) (pa_cons (pv 6) pa_nil))) (pa_cons (pe_calN C_steps_of (hr.mono (by decide)) (pa_cons (pv 3) (pa_cons (pv 6) pa_nil))) pa_nil)) (by rfl))
      (pss_cons (ps_if (PW.pt (pw_or (pt_not (pt_val (pe_callB call_isi (by rfl) Z.isinstance (by decide +kernel) (pa_cons (pv 9) (pa_cons (pe_bltn (v := .ty "tuple") (by rfl) Z.tuple (by decide +kernel) rfl) pa_nil))))) (pw_or1 (pt_cmpR op_ne (pe_callB (cr_repr hgd (ru64 hr)) (by rfl) Z.repr (by decide +kernel) (pa_cons (pe_cal C_law_t2_told_papers (hr.mono (by decide)) (pa_cons (pv 9) pa_nil)) pa_nil)) (pe_callB (cr_repr hgd (ru64 hr)) (by rfl) Z.repr (by decide +kernel) (pa_cons (pv 8) pa_nil)) (nomark _))))) (pss_one (ps_ret pe_bl)) pss_nil)
      (pss_cons (ps_if (PW.pt (pw_or (pt_cmpR (op_neD (ru64 hr)) (pe_lc (own := [("_law_one", 17)]) (g := gName 17) rfl sc_law.nd (pi_tup (pv 9)) (blkOk_by (N := n_law) (sc := defScope s_law) (by decide +kernel)) (fun _ _ _ _ _ => (pg_name (i := 17) sc_law.nd rfl (Or.inl rfl))) (fun _ _ _ _ _ => (pts_one (pt_not (pt_val (pe_callB (call_isi : CallR _ _ (rIsi K)) (by rfl) Z.isinstance (by decide +kernel) (pa_cons (pv 17) (pa_cons (pe_glob (v := .ref C) rfl gS rfl) pa_nil))))))) (fun _ _ _ _ _ => (pv 17))) (pe_lst pa_nil) (nomark _)) (pw_or1 (pt_cmpR (op_neD (ru64 hr)) (pe_cal C_plan_of (hr.mono (by decide)) (pa_cons (pv 9) pa_nil)) (pe_callTy call_tuple_of (by rfl) Z.tuple (by decide +kernel) (pa_cons (pv 6) pa_nil)) (nomark _))))) (pss_one (ps_ret pe_bl)) pss_nil)
      (pss_cons (ps_if (PW.pt (pw_or (pt_cmpR op_notN (pe_cal C_first_loose (hr.mono (by decide)) (pa_cons (pv 3) (pa_cons (pv 9) pa_nil))) pe_non (nomark _)) (pw_or1 (pt_cmpR (op_neD (ru64 hr)) (pe_cal C_plan_of (hr.mono (by decide)) (pa_cons (pe_lst pa_nil) pa_nil)) (pe_tup pa_nil) (nomark _))))) (pss_one (ps_ret pe_bl)) pss_nil)
      (pss_cons (ps_for PassesOwn.never rfl (pi_zip (by rfl) Z.zip (pa_cons (pv 8) (pa_cons (pv 7) pa_nil))) (pg_tup rfl (pgs_cons (pg_name (i := 10) sc_law.nd rfl (Or.inr rfl)) (pgs_cons (pg_name (i := 11) sc_law.nd rfl (Or.inr rfl)) pgs_nil))) (pss_cons (ps_setLc (i := 12) (own := [("_law_cell", 18)]) (g := gName 18)  rfl sc_law.nd rfl rfl (sw_true rfl rfl rfl (by decide +kernel)) (pi_list (pe_cal C_law_t2_beside (hr.mono (by decide)) (pa_cons (pe_ix ix_tup (pv 10) pe_int (fun _ _ => rfl)) pa_nil))) (blkOk_by (N := n_law) (sc := defScope s_law) (by decide +kernel)) (fun _ _ _ _ _ => (pg_name (i := 18) sc_law.nd rfl (Or.inl rfl))) (fun _ _ _ _ _ => (pts_one (pt_cmpR (op_inU (ru65 hr) : OpR _ _ (rInU K)) (pv 18) (pv 11) (by rfl)))) (fun _ _ _ _ _ => (pv 18)))
      (pss_one (ps_if (PW.pt (pw_or (pt_not (pt_val (pe_cal C_law_t2_hangs (hr.mono (by decide)) (pa_cons (pe_ix ix_tup (pv 10) pe_int (fun _ _ => rfl)) pa_nil)))) (pw_or1 (pt_cmpR (op_neD (ru64 hr)) (pe_lc (own := [("_law_cell", 18)]) (g := gName 18) rfl sc_law.nd (pi_list (pv 12)) (blkOk_by (N := n_law) (sc := defScope s_law) (by decide +kernel)) (fun _ _ _ _ _ => (pg_name (i := 18) sc_law.nd rfl (Or.inl rfl))) (fun _ _ _ _ _ => (pts_one (pt_cmpR (op_notInU (ru65 hr) : OpR _ _ (rNotInU K)) (pv 18) (pe_ix (ix_tup : IxR _ (rIxT K)) (pv 10) pe_int (fun _ _ => rfl)) (by rfl)))) (fun _ _ _ _ _ => (pv 18))) (pe_lst pa_nil) (nomark _))))) (pss_one (ps_ret pe_bl)) pss_nil))))
      (pss_one (ps_if (pt_cmpR (op_neD (ru64 hr)) (pv 6) (pe_lst pa_nil) (nomark _)) (pss_cons (ps_set (i := 13) sc_law.nd rfl (Or.inl rfl) (pe_cal C_law_draw (hr.mono (by decide)) (pa_cons (pv 1) (pa_cons (pe_callB call_len_seq (by rfl) Z.len (by decide +kernel) (pa_cons (pv 6) pa_nil)) pa_nil))))
      (pss_cons (ps_set (i := 14) sc_law.nd rfl (Or.inl rfl) (pe_op op_cat (pe_op op_cat (pe_slice sl_list (pv 6) po_none (po_some (pv 13))) (pe_lst (pa_cons (pe_tup (pa_cons (pe_ix ix_tup (pe_ix ix_list (pv 6) (pv 13) (fun _ _ => rfl)) pe_int (fun _ _ => rfl)) (pa_cons (pe_cal C_law_pick (hr.mono (by decide)) (pa_cons (pv 1) (pa_cons (pe_cal C_law_t2_around (hr.mono (by decide)) (pa_cons (pe_ix ix_tup (pe_ix ix_list (pv 6) (pv 13) (fun _ _ => rfl)) pe_int (fun _ _ => rfl)) pa_nil)) pa_nil))) pa_nil))) pa_nil))) (pe_slice sl_list (pv 6) (po_some (pe_op op_add (pv 13) pe_int)) po_none)))
      (pss_cons (ps_set (i := 15) sc_law.nd rfl (Or.inl rfl) (pe_ix ix_tup (pe_cal C_law_t2_first_wrong (hr.mono (by decide)) (pa_cons (pv 3) (pa_cons (pv 14) pa_nil))) pe_int (fun _ _ => rfl)))
      (pss_cons (ps_set (i := 16) sc_law.nd rfl (Or.inl rfl) (pe_ifExp (pt_cmpR op_notN (pv 15) pe_non (nomark _)) (pe_tup (pa_cons pe_str (pa_cons pe_str (pa_cons (pv 15) pa_nil)))) (pe_tup (pa_cons pe_str (pa_cons (pe_cal C_law_t2_papers (hr.mono (by decide)) (pa_cons (pv 3) (pa_cons (pv 14) pa_nil))) pa_nil)))))
      (pss_cons (ps_if (pt_cmpR (op_neD (ru64 hr)) (pe_cal C_law_t2_steps_told (hr.mono (by decide)) (pa_cons (pv 3) (pa_cons (pv 14) pa_nil))) (pv 16) (nomark _)) (pss_one (ps_ret pe_bl)) pss_nil)
      (pss_cons (ps_set (i := 14) sc_law.nd rfl (Or.inl rfl) (pe_op op_cat (pe_op op_cat (pe_slice sl_list (pv 6) po_none (po_some (pv 13))) (pe_lst (pa_cons (pe_tup (pa_cons (pe_ix ix_tup (pe_ix ix_list (pv 6) (pv 13) (fun _ _ => rfl)) pe_int (fun _ _ => rfl)) (pa_cons (pe_cal C_law_pick (hr.mono (by decide)) (pa_cons (pv 1) (pa_cons (pe_lst (pa_cons pe_non (pa_cons pe_int (pa_cons (pe_lst (pa_cons pe_int (pa_cons pe_int pa_nil))) (pa_cons (pe_tup (pa_cons pe_str (pa_cons pe_int pa_nil))) pa_nil))))) pa_nil))) pa_nil))) pa_nil))) (pe_slice sl_list (pv 6) (po_some (pe_op op_add (pv 13) pe_int)) po_none)))
      (pss_one (ps_if (pt_cmpR (op_neD (ru64 hr)) (pe_cal C_law_t2_steps_told (hr.mono (by decide)) (pa_cons (pv 3) (pa_cons (pe_callTy call_tuple_of (by rfl) Z.tuple (by decide +kernel) (pa_cons (pv 14) pa_nil)) pa_nil))) (pe_tup (pa_cons pe_str (pa_cons pe_str (pa_cons (pv 13) pa_nil)))) (nomark _)) (pss_one (ps_ret pe_bl)) pss_nil)))))))) pss_nil)))))))))))
      (pss_one (ps_ret pe_bl)))), ?_⟩
    refine ⟨.ref a, rfl, a, scr, rfl, hS, by omega, fun d c H1 nd e1 p1 => ?_⟩
    refine q_forR1 (n := 2) (ea_cons ev_int ea_nil) (by decide) fun H2 e2 => ⟨fun lap s' H' => ∃ u2 u3 u4 u5 u6 u7 u8 u9 u10 u11 u12 u13 u14 u15 u16, s' = [some (.ref a), some (.ref d), u2, u3, u4, u5, u6, u7, u8, u9, u10, u11, u12, u13, u14, u15, u16, none, none] ∧ PenAt H' d c (4000 * lap),
      ⟨_, _, _, _, _, _, _, _, _, _, _, _, _, _, _, rfl, p1.up e2⟩, fun lap s' H' hlap ⟨u2, u3, u4, u5, u6, u7, u8, u9, u10, u11, u12, u13, u14, u15, u16, es, p2⟩ => ?_, fun s' H' ⟨u2, u3, u4, u5, u6, u7, u8, u9, u10, u11, u12, u13, u14, u15, u16, es, p2⟩ => ?_⟩
    · subst es
      have hlap2 : lap < 2 := by omega
      -- a body
      refine q_with (fun s' H' => ∃ (b : List Cell) (vb : V), s' = [some (.ref a), some (.ref d), some (.int (lap : Int)), some vb, u4, u5, u6, u7, u8, u9, u10, u11, u12, u13, u14, u15, u16, none, none] ∧ Hang b ∧ b.Nodup ∧ b.length ≤ 16 ∧ Nr b ∧ PenAt H' d c (4000 * lap + 2010) ∧ En H' vb b) (fun s' H3 ⟨b, vb, es, hang, hnd, hbl, hnr, p3, hvb⟩ => ?_) fun fin => ?_
      · subst es
        have hbne : b ≠ [] := hang.1
        have hin := nr_in hang (by omega) hnr
        -- four squares
        refine q_forR1 (n := 4) (ea_cons ev_int ea_nil) (by decide) fun H4 e4 => ⟨fun t s' H' => ∃ u4 u5, s' = [some (.ref a), some (.ref d), some (.int (lap : Int)), some vb, u4, u5, u6, u7, u8, u9, u10, u11, u12, u13, u14, u15, u16, none, none] ∧ PenAt H' d c (4000 * lap + 2010 + 3 * t) ∧ En H' vb b,
          ⟨_, _, rfl, p3.up e4, en_up e4 hvb⟩, fun t s' H' ht ⟨u4, u5, es, p4, hvb⟩ => ?_, fun s' H' ⟨u4, u5, es, p4, hvb⟩ => ?_⟩
        · subst es
          have ht4 : t < 4 := by omega
          refine raw_asgG (raw_pickT (xs := b) rfl (ev_var rfl hvb) p4 (by omega) hbne (by omega) fun c0 v5 H5 hc0 m5 p5 hv5 => ?_)
          have hvb5 := en_mv hvb m5
          refine q_with (fun s' H' => ∃ (c1 : Cell) (v5 : V), s' = [some (.ref a), some (.ref d), some (.int (lap : Int)), some vb, some (.int (t : Int)), some v5, u6, u7, u8, u9, u10, u11, u12, u13, u14, u15, u16, none, none] ∧ En H' v5 c1 ∧ En H' vb b ∧ PenAt H' d c (4000 * lap + 2010 + 3 * (t + 1))) (fun s' H6 ⟨c1, v5, es, hv5, hvb6, p6⟩ => ?_) fun fin2 => ?_
          · subst es
            exact s_ifN (b := false) (eb_test (ev_neAw (b := b) (c := c1) (ev_c2 (P1 := en b) (P2 := en c1) (ea_cons (ev_var rfl hvb6) (ea_cons (ev_var rfl hv5) ea_nil)) ⟨b, c1, rfl, rfl, by omega, hang, rfl⟩) (ev_c2 (P1 := en b) (P2 := en c1) (ea_cons (ev_var rfl hvb6) (ea_cons (ev_var rfl hv5) ea_nil)) ⟨b, c1, rfl, rfl, by omega, hang, rfl⟩))) (fun hb => by cases hb) fun _ H7 e7 => ⟨_, _, rfl, p6.up e7, en_up e7 hvb6⟩
          · refine q_if1 (d := d) (c := c) (n := 4000 * lap + 2010 + 3 * t + 1) (fun Q' q' => ⟨.ref d, rfl, d, c, _, 5, rfl, p5, by omega, by decide, by decide, fun z Hb z0 z1 mb pb => ⟨rfl, _, rfl, q' _ Hb mb pb⟩⟩) (fun H6 m6 p6 => ?_) fun H6 m6 p6 => fin2 _ _ ⟨c0, v5, rfl, en_mv hv5 m6, en_mv hvb5 m6, p6.more (by omega)⟩
            refine raw_asg (raw_pickL (xs := ar c0) rfl (ew_c1 (P1 := en c0) (ea_cons (ev_var rfl (en_mv hv5 m6)) ea_nil) ⟨c0, rfl, rfl⟩).p p6 (by omega) (fun z => by
              have := ar_len c0
              rw [z] at this
              cases this) (by rw [ar_len]; decide) fun c1 v7 H7 hc1 m7 p7 hv7 => ?_)
            exact fin2 _ _ ⟨c1, v7, rfl, hv7, en_mv (en_mv hvb5 m6) m7, p7.more (by omega)⟩
        · subst es
          -- a plan
          refine raw_asgG (raw_call (raw_cons ⟨.ref d, rfl, raw_cons ⟨vb, rfl, raw_cons (raw_draw (m := 13) p4 (by omega) rfl ev_int (by decide) (by decide) fun many H5 x0 x1 m5 p5 => ⟨d, c, _, vb, b, many, rfl, p5, en_mv hvb m5, by omega, x0, by omega, by omega, fun pl v H6 hok hpl m6 p6 hv => ?_⟩)⟩⟩))
          obtain ⟨a4, vp, vq, rfl, ha4, ⟨pp, rfl, hpp⟩, ⟨pq, rfl, hpq⟩⟩ := hv
          refine ⟨a4, [.ref pp, .ref pq], rfl, .inl (.inl ha4), rfl, _, [.ref pq], rfl, _, [], rfl, rfl, ?_⟩
          have hvb6 := en_mv (en_mv hvb m5) m6
          have hpl' : pl.length ≤ 12 := by omega
          -- papers, steps
          refine raw_par (raw_cons ((ew_c2 (P1 := en b) (P2 := li pl) (Pz := liX (PapX b pl)) (ea_cons (ev_var rfl hvb6) (ea_cons (ev_li rfl hpp) ea_nil)) ⟨b, pl, rfl, rfl, by omega, by omega, hang, hok, rfl⟩) H6 Ex.same _ fun pa H7 na na' e7 ⟨ps, hpx, hpa0⟩ => raw_cons (raw_callS (raw_cons ⟨vb, rfl, raw_cons ⟨.ref pp, rfl, ⟨vb, .ref pp, b, rfl, en_up e7 hvb6, by omega, hang, .inl ⟨pl, ps, ⟨pp, rfl, hpp.up e7⟩, by omega, hok, hpx, fun vt H8 e8 hvt => ⟨.ref pa, vt, rfl, ?_⟩⟩⟩⟩⟩))))
          have hpap := hpx.pap hang hok
          have K8 : Pw C d c b pl ps vb vt pp pq pa (4000 * lap + 2010 + 12 + 301) H8 := ⟨(p6.up (e7.tr e8)).more (by omega), en_up (e7.tr e8) hvb6, hpp.up (e7.tr e8), hpq.up (e7.tr e8), (li_at hpa0).up e8, hvt⟩
          have hps : ps.length = pl.length := hpx.1
          have hsm : ∀ p, p ∈ ps → smallP p := fun p hp => by
            obtain ⟨i, hi, e⟩ := List.getElem_of_mem hp
            have hpi : ps[i]? = some p := by rw [List.getElem?_eq_getElem hi, e]
            obtain ⟨m, hm⟩ : ∃ m, pl[i]? = some m := ⟨_, List.getElem?_eq_getElem (by omega)⟩
            have ok := hpap.2 i m p hm hpi
            obtain ⟨r, hr⟩ := ok.sup
            have h1 := supp_len hr
            have h2 := nodup_len ok.wit.nd ok.wit.sub
            have h3 : (endB b (pl.take i)).length ≤ b.length := endB_len (okPlan_pre hok i)
            have h4 := rest_len (cs := endB b (pl.take i)) (c := m.1)
            unfold smallP
            omega
          have hbd := papx_bd hpx hang hok hin (by omega)
          have hwl : ∀ p, p ∈ ps → p.wit.length ≤ 1000 := fun p hp => by
            have := hsm p hp
            unfold smallP at this
            omega
          have hso := sound_self hok hpap
          have hpms := pms_pap hpap
          -- a tuple; shown alike
          refine q_ifN (b := !true || false) (eb_or (eb_not (eb_B (ev_isTR (ev_var rfl K8.vt) (by rfl)))) fun _ => eb_test (ev_neStr (ev_repr (ew_c1 (P1 := tr (stR C) ps) (ea_cons (ev_var rfl K8.vt) ea_nil) ⟨ps, rfl, by omega, rfl⟩).p (by omega) fun p hp => ⟨hbd p hp, hsm p hp⟩) (ev_repr (ev_li rfl K8.pa) (by omega) fun p hp => ⟨hbd p hp, hsm p hp⟩))) (fun hb => by cases hb) fun _ H9 e9 => ?_
          have K9 := K8.up e9
          -- steps all; plan_of
          refine q_ifN (b := !decide (([] : List Int) = []) || !decide (pl = pl)) (eb_or (eb_test (ev_neL (α := Int) (en_lcNone (R := stR C) (xs := ps) (ev_var rfl K9.vt) (by omega) fun x u H' hx e hu => eb_not (eb_B (ev_isStep TC IS (ev_var (P := st C x) rfl hu)))).li (en_nil (α := Int)).li)) fun _ => eb_test (ev_neE ((ev_c1 (P1 := tr (stR C) ps) (ea_cons (ev_var rfl K9.vt) ea_nil) (.inl ⟨ps, rfl, by omega, rfl⟩)).is hpms) (ev_tupleL rfl (ev_li rfl K9.pp)))) (fun hb => ?_) fun _ Ha ea => ?_
          · rw [decide_eq_true rfl, decide_eq_true rfl] at hb
            cases hb
          have Ka := K9.up ea
          -- first_loose
          refine q_ifN (b := false || !decide (([] : List (Cell × Cell)) = [])) (eb_or (eb_test (ev_notNn rfl ((ev_c2 (P1 := en b) (P2 := tr (stR C) ps) (ea_cons (ev_var rfl Ka.vb) (ea_cons (ev_var rfl Ka.vt) ea_nil)) ⟨b, ps, rfl, .inr rfl, by omega, hwl, hang, rfl⟩).to fun _ _ h => fl_nn hso h))) fun _ => eb_test (ev_neE (ev_c1 (P1 := lr (stR C) []) (ea_cons (fun Hx ex Q' q' => ⟨Nat.zero_le _, fun z hz => q' _ _ (Ex.new hz) ⟨z, rfl, [], upd_same, .nil⟩⟩) ea_nil) (.inr ⟨rfl, rfl⟩)) (ev_tup (xs := ([] : List (Cell × Cell))) ea_nil))) (fun hb => ?_) fun _ Hb eb => ?_
          · rw [decide_eq_true rfl] at hb
            cases hb
          have Kb := Ka.up eb
          -- each witness
          refine q_forZ (xs := ps) (ys := bods b pl) [] Kb.pa Kb.pq (ev_vr rfl) (ev_vr rfl) List.not_mem_nil List.not_mem_nil fun Hc ec => ⟨fun i s' H' => ∃ u10 u11 u12, s' = [some (.ref a), some (.ref d), some (.int (lap : Int)), some vb, u4, u5, some (.ref pp), some (.ref pq), some (.ref pa), some vt, u10, u11, u12, u13, u14, u15, u16, none, none] ∧ Ex Hc H',
            ⟨_, _, _, rfl, Ex.same⟩, fun i s' H' ⟨_, _, _, _, e⟩ => Mv.same.ex e, fun i p B vp vB s' H' H'' hp hB hvp hvB e'' ⟨u10, u11, u12, es, eX⟩ => ?_, fun s' H' ⟨u10, u11, u12, es, eX⟩ => ?_⟩
          · subst es
            obtain ⟨m, hm⟩ : ∃ m, pl[i]? = some m := ⟨_, List.getElem?_eq_getElem (by
              have := (List.getElem?_eq_some_iff.mp hp).1
              omega)⟩
            have hBe : B = endB b (pl.take i) := by
              have := bods_k b pl (k := i) (by have := (List.getElem?_eq_some_iff.mp hm).1; omega)
              rw [hB] at this
              exact Option.some.inj this
            subst hBe
            have ok := hpap.2 i m p hm hp
            refine q_asgN ((en_lcL (f := fun x => x) (p := fun x => memB x (endB b (pl.take i))) (ew_c1 (P1 := en p.s) (ea_cons (ev_pa (ev_var rfl hvp) (.inl ⟨rfl, rfl⟩)) ea_nil) ⟨p.s, rfl, rfl⟩).p (Nat.le_of_ble_eq_true rfl) fun x u Hd hx e hu => ⟨eb_test (ev_inU (ev_var rfl hu) (ev_var rfl (en_up e hvB))), fun _ => ev_var rfl hu⟩).is (List.map_id' _)) fun pn Hd nd ed hn => ?_
            have hnone : ((nbs p.s).filter fun x => memB x (endB b (pl.take i))).filter (fun x => !memB x p.wit) = [] := List.filter_eq_nil_iff.mpr fun x hx => by
              obtain ⟨g1, g2⟩ := List.mem_filter.mp hx
              rw [ok.s] at g1
              have := ok.wit.near x g1 (memB_iff.mp g2)
              rw [memB_iff.mpr this]
              simp
            have hnl : ((nbs p.s).filter fun x => memB x (endB b (pl.take i))).length ≤ 4 := List.length_filter_le _ _
            have hpw : p.wit.length ≤ 1000 := hwl p (List.mem_of_getElem? hp)
            refine s_ifN (b := !hangB p.wit || !decide (([] : List Cell) = [])) (eb_or (eb_not (eb_B (ev_c1 (P1 := en p.wit) (ea_cons (ev_pa (ev_var rfl (en_up ed hvp)) (.inr (.inr (.inr ⟨rfl, rfl⟩)))) ea_nil) ⟨p.wit, rfl, hpw, rfl⟩))) fun _ => eb_test (ev_neL ((en_lcL (f := fun x : Cell => x) (p := fun x => !memB x p.wit) (ev_li rfl hn) (by omega) fun x u He hx e hu => ⟨eb_test (ev_niU (ev_var rfl hu) (ev_pa (ev_var rfl (en_up (ed.tr e) hvp)) (.inr (.inr (.inr ⟨rfl, rfl⟩))))), fun _ => ev_var rfl hu⟩).is ((List.map_id' _).trans hnone)).li (en_nil (α := Cell)).li)) (fun hb => ?_) fun _ He ee => ⟨_, _, _, rfl, (eX.tr e'').tr (ed.tr ee)⟩
            rw [hangB_iff.mpr ok.wit.hang, decide_eq_true rfl] at hb
            cases hb
          · subst es
            have Kc := (Kb.up ec).up eX
            refine s_ifN (b := !decide (pl = [])) (eb_test (ev_neL (ev_li rfl Kc.pp) (en_nil (α := Cell × Cell)).li)) (fun hb Hd ed => ?_) fun hb Hd ed => ⟨_, _, _, _, _, _, _, _, _, _, _, _, _, _, _, rfl, ((Kc.up ed).pen).more (by omega)⟩
            have hplne : pl ≠ [] := by simpa using hb
            have hpl0 : 0 < pl.length := List.length_pos_iff.mpr hplne
            have Kd := Kc.up ed
            refine raw_asgG (raw_draw (m := (pl.length : Int)) Kd.pen (by omega) rfl (ev_len rfl (ev_li rfl Kd.pp)) (by omega) (by omega) fun k0 He k00 k01 me pe => ?_)
            obtain ⟨k, rfl⟩ := Int.eq_ofNat_of_zero_le k00
            have hk : k < pl.length := by omega
            have hvbe := en_mv Kd.vb me
            have hppe : Ls He pp pl := Kd.pp.mv (mem1 (Kd.pen.ne Kd.pp)) me
            obtain ⟨m, hm⟩ : ∃ m, pl[k]? = some m := ⟨_, List.getElem?_eq_getElem hk⟩
            have hm0 : ∀ {s : TSt} {Hx : Hp}, Ls Hx pp pl → s[6]? = some (some (.ref pp)) → s[13]? = some (some (.int (k : Int))) → EvP (tOp (rIxT K) (tOp (rIxL K) (tVar 6) (tVar 13)) (tC (.int 0))) s Hx (en m.1) := fun h h6 h13 => ev_fst (ev_ixL (ev_li h6 h) (ev_var h13 rfl) (atI_nat hm))
            have hcutl : ∀ lo hi, (cut pl lo hi).length ≤ 12 := fun lo hi => Nat.le_trans cut_len (by omega)
            have hc1 : cut pl none (some (k : Int)) = pl.take k := cut_toA (by omega)
            have hc2 : cut pl (some ((k : Int) + 1)) none = pl.drop (k + 1) := by
              rw [show (k : Int) + 1 = ((k + 1 : Nat) : Int) by omega]
              exact cut_fromA (by omega)
            -- another cell
            refine raw_asgG (raw_op (raw_op ((en_slice (ev_li rfl hppe) eo_none (eo_some (ev_var rfl rfl))) He Ex.same _ fun pa1 Hf nf ef hf => raw_lst (raw_cons (raw_tup (raw_cons ((hm0 (hppe.up ef) rfl rfl) Hf Ex.same _ fun v1 Hg eg hv1 => raw_cons (raw_pickL (xs := ar m.1) rfl (ew_c1 (P1 := en m.1) (ea_cons (hm0 (hppe.up (ef.tr eg)) rfl rfl) ea_nil) ⟨m.1, rfl, rfl⟩).p (pe.up (ef.tr eg)) (by omega) (fun z => by
              have := ar_len m.1
              rw [z] at this
              cases this) (by rw [ar_len]; decide) fun c1 v2 Hh hc1' mh ph hv2 => ⟨by show 2 ≤ sizeLine; decide, fun T nT => ⟨by show 1 ≤ sizeLine; decide, fun pl1 nl1 => ?_⟩⟩))))))))
            have eT := Ex.new (o := HO.tup [v1, v2]) nT
            have eL := Ex.new (o := HO.lst [V.ref T]) nl1
            have hd1 : pa1 ≠ d := fun z => (pe.new nf).1 z.symm
            have hpa1 : Ls _ pa1 (cut pl none (some (k : Int))) := (((hf.up eg).mv (mem1 hd1) mh).up eT).up eL
            have hone : Ls (upd (upd Hh T (.tup [v1, v2])) pl1 (.lst [V.ref T])) pl1 [((m.1, c1) : Cell × Cell)] := ⟨[.ref T], upd_same, .cons ⟨T, v1, v2, rfl, eL _ _ upd_same, en_up (eT.tr eL) (en_mv hv1 mh), en_up (eT.tr eL) hv2⟩ .nil⟩
            have hppi : Ls (upd (upd Hh T (.tup [v1, v2])) pl1 (.lst [V.ref T])) pp pl := ((((hppe.up ef).up eg).mv (mem1 (pe.ne hppe)) mh).up eT).up eL
            have hvbi : En (upd (upd Hh T (.tup [v1, v2])) pl1 (.lst [V.ref T])) vb b := en_up (eT.tr eL) (en_mv (en_up (ef.tr eg) hvbe) mh)
            have pi : PenAt (upd (upd Hh T (.tup [v1, v2])) pl1 (.lst [V.ref T])) d c _ := (ph.up eT).up eL
            generalize upd (upd Hh T (.tup [v1, v2])) pl1 (.lst [V.ref T]) = Hi at hpa1 hone hppi hvbi pi
            refine cat_at hpa1 hone (by have := hcutl none (some (k : Int)); show _ + 1 ≤ _; omega) fun pa2 Hj nj ej hj => ?_
            refine (en_slice (ev_li rfl (hppi.up ej)) (eo_some (ev_I (g := fun i j => i + j) (i := (k : Int)) (j := 1) (ev_var rfl rfl) ev_int)) eo_none) Hj Ex.same _ fun pa3 Hk nk ek hk3 => ?_
            refine cat_at (hj.up ek) hk3 (by
              have h1 := hcutl none (some (k : Int))
              have h2 := hcutl (some ((k : Int) + 1)) none
              rw [List.length_append]
              show _ + 1 + _ ≤ _
              omega) fun po Hl nl el hl => ?_
            rw [hc1, hc2] at hl
            have hl : Ls Hl po (chg pl k (m.1, c1)) := hl
            have ejl := (ej.tr ek).tr el
            have hvbl := en_up ejl hvbi
            have hppl := hppi.up ejl
            have pil := pi.up ejl
            have hol : (chg pl k (m.1, c1)).length ≤ 12 := by
              rw [chg_len hk]
              omega
            generalize chg pl k (m.1, c1) = other at hl hol
            -- where it goes wrong
            refine raw_asgG (raw_op ((ev_c2 (P1 := en b) (P2 := li other) (ea_cons (ev_var rfl hvbl) (ea_cons (ev_li rfl hl) ea_nil)) ⟨b, other, rfl, rfl, by omega, by omega, rfl⟩) Hl Ex.same _ fun vf Hm em hvf => ?_))
            obtain ⟨af, xf, yf, rfl, haf, hfw⟩ : ∃ af xf yf, vf = .ref af ∧ Hm af = some (.tup [xf, yf]) ∧ FwI b other xf := by
              obtain ⟨pl2, hvf⟩ := hvf
              rcases hvf with ⟨rfl, hok', a, x, y, rfl, ha, hx, _⟩ | ⟨i, m', rfl, hm', hok', hbad', a, x, y, rfl, ha, hx, _⟩
              · exact ⟨a, x, y, rfl, ha, .inl ⟨hok', hx⟩⟩
              · exact ⟨a, x, y, rfl, ha, .inr ⟨i, m', hx, hm', hok', hbad'⟩⟩
            refine raw_c ⟨af, [xf, yf], 0, xf, rfl, rfl, .inl (.inl haf), rfl, ?_⟩
            -- due
            refine q_with (fun s' H' => ∃ vd, s' = [some (.ref a), some (.ref d), some (.int (lap : Int)), some vb, u4, u5, some (.ref pp), some (.ref pq), some (.ref pa), some vt, u10, u11, u12, some (.int (k : Int)), some (.ref po), some xf, some vd, none, none] ∧ Ex Hm H' ∧
              ((∃ (i : Nat) (m' : Cell × Cell), other[i]? = some m' ∧ okPlan b (other.take i) = true ∧ okMove (endB b (other.take i)) m'.1 m'.2 = false ∧ (npP (i : Int)).p H' vd) ∨ (okPlan b other = true ∧ (tlX (PapX b other)).p H' vd))) (fun s' Hn ⟨vd, es, en', hdue⟩ => ?_) fun fin2 => ?_
            · subst es
              have hvbn := en_up (em.tr en') hvbl
              have hln := hl.up (em.tr en')
              have hppn := hppl.up (em.tr en')
              have pn := pil.up (em.tr en')
              refine q_ifN (b := false) (eb_test ?_) (fun hb => by cases hb) fun _ Ho eo => ?_
              · rcases hdue with ⟨i, m', hm', hok', hbad', hvd⟩ | ⟨hok', ps2, hpx2, hvd⟩
                · exact ev_neNp (ev_stN rfl rfl hvbn (by omega) hang ⟨po, rfl, hln⟩ (by omega) hm' hok' hbad') (ev_var rfl hvd)
                · exact ev_neTl (ev_stT rfl rfl hvbn (by omega) hang ⟨po, rfl, hln⟩ (by omega) hok' hpx2) (ev_var rfl hvd)
              have hppz := hppn.up eo
              have hvbz := en_up eo hvbn
              have pz := pn.up eo
              -- what is no cell
              refine raw_asgG (raw_op (raw_op ((en_slice (ev_li rfl hppz) eo_none (eo_some (ev_var rfl rfl))) Ho Ex.same _ fun qa1 Hf nf ef hf => raw_lst (raw_cons (raw_tup (raw_cons ((hm0 (hppz.up ef) rfl rfl) Hf Ex.same _ fun v1 Hg eg hv1 => raw_cons (raw_pickO rfl ev_odl (pz.up (ef.tr eg)) (by omega) fun o w2 Hh mh ph ho => ⟨by show 2 ≤ sizeLine; decide, fun T nT => ⟨by show 1 ≤ sizeLine; decide, fun pl1 nl1 => ?_⟩⟩))))))))
              have eT := Ex.new (o := HO.tup [v1, w2]) nT
              have eL := Ex.new (o := HO.lst [V.ref T]) nl1
              have hd1 : qa1 ≠ d := fun z => (pz.new nf).1 z.symm
              have hqa1 : Ls (upd (upd Hh T (.tup [v1, w2])) pl1 (.lst [V.ref T])) qa1 (cut pl none (some (k : Int))) := (((hf.up eg).mv (mem1 hd1) mh).up eT).up eL
              have hone : LsR it2R (upd (upd Hh T (.tup [v1, w2])) pl1 (.lst [V.ref T])) pl1 [It2.odd m.1 w2] := ⟨[.ref T], upd_same, .cons ⟨T, v1, rfl, eL _ _ upd_same, en_up (eT.tr eL) (en_mv hv1 mh)⟩ .nil⟩
              have hppi : Ls (upd (upd Hh T (.tup [v1, w2])) pl1 (.lst [V.ref T])) pp pl := ((((hppz.up ef).up eg).mv (mem1 (pz.ne hppz)) mh).up eT).up eL
              have hvbi : En (upd (upd Hh T (.tup [v1, w2])) pl1 (.lst [V.ref T])) vb b := en_up (eT.tr eL) (en_mv (en_up (ef.tr eg) hvbz) mh)
              have pi : PenAt (upd (upd Hh T (.tup [v1, w2])) pl1 (.lst [V.ref T])) d c _ := (ph.up eT).up eL
              have hoi : OeAt (upd (upd Hh T (.tup [v1, w2])) pl1 (.lst [V.ref T])) w2 o := ho.up (eT.tr eL)
              generalize upd (upd Hh T (.tup [v1, w2])) pl1 (.lst [V.ref T]) = Hi at hqa1 hone hppi hvbi pi hoi
              refine cat_atR (ls_it2 hqa1) hone (by have := hcutl none (some (k : Int)); rw [List.length_map]; show _ + 1 ≤ _; omega) fun pa2 Hj nj ej hj => ?_
              refine (en_slice (ev_li rfl (hppi.up ej)) (eo_some (ev_I (g := fun i j => i + j) (i := (k : Int)) (j := 1) (ev_var rfl rfl) ev_int)) eo_none) Hj Ex.same _ fun pa3 Hk nk ek hk3 => ?_
              refine cat_atR (hj.up ek) (ls_it2 hk3) (by
                have h1 := hcutl none (some (k : Int))
                have h2 := hcutl (some ((k : Int) + 1)) none
                rw [List.length_append, List.length_map, List.length_map]
                show _ + 1 + _ ≤ _
                omega) fun po2 Hq nq eq hq2 => ?_
              rw [hc1, hc2] at hq2
              have ejq := (ej.tr ek).tr eq
              exact s_ifN (b := false) (eb_test (ev_neNp (i := (k : Int)) (ev_stO (P := tr it2R ((pl.take k).map It2.ok ++ [It2.odd m.1 w2] ++ (pl.drop (k + 1)).map It2.ok)) rfl (ev_tupleR rfl (ev_var rfl ⟨po2, rfl, hq2⟩)) (en_up ejq hvbi) (by omega) hang fun v H' e' hv => by
                obtain ⟨p9, rfl, hp9⟩ := hv
                exact odd_plan hok hk (by omega) hp9 (hoi.up (ejq.tr e'))) (ev_npP (ev_var rfl rfl)))) (fun hb => by cases hb) fun _ Hr er => ⟨_, _, _, _, _, _, _, _, _, _, _, _, _, _, _, rfl, ((pi.up ejq).up er).more (by omega)⟩
            · rcases hfw with ⟨hok', rfl⟩ | ⟨i, m', rfl, hm', hok', hbad'⟩
              · refine s_asg (P := tlX (PapX b other)) (ev_if (b := false) (eb_test (ev_notNn rfl (ev_var (P := nn) rfl rfl))) (fun hb => by cases hb) fun _ => ev_tlX (ew_c2 (P1 := en b) (P2 := li other) (Pz := liX (PapX b other)) (ea_cons (ev_var rfl (en_up em hvbl)) (ea_cons (ev_li rfl (hl.up em)) ea_nil)) ⟨b, other, rfl, rfl, by omega, by omega, hang, hok', rfl⟩).p) fun vd Hn en' hvd => fin2 _ _ ⟨vd, rfl, en', .inr ⟨hok', hvd⟩⟩
              · refine s_asg (P := npP (i : Int)) (ev_if (b := true) (eb_test (ev_notInt (i := (i : Int)) rfl (ev_var rfl rfl))) (fun _ => ev_npP (ev_var rfl rfl)) fun hb => by cases hb) fun vd Hn en' hvd => fin2 _ _ ⟨vd, rfl, en', .inl ⟨i, m', hm', hok', hbad', hvd⟩⟩
      · refine raw_asgG (raw_ifT (d := d) (c := c) (n := 4000 * lap) (fun R r => ⟨.ref d, rfl, d, c, 4000 * lap, 3, rfl, p2, by omega, by decide, by decide, fun z H3 z0 z1 m3 p3 => ⟨z, 0, rfl, rfl, decide (0 < z), rfl, r _ H3 m3 p3⟩⟩) fun b3 H3 m3 p3 => ⟨fun _ => ?_, fun _ => ?_⟩)
        · exact ⟨.ref d, rfl, d, c, 4000 * lap + 1, 16, rfl, p3, by decide, by decide, by omega, fun b vb H4 hang hnd hbl hnr m4 p4 hvb => fin _ _ ⟨b, vb, rfl, hang, hnd, by omega, hnr, p4.more (by omega), hvb⟩⟩
        · exact ⟨.ref d, rfl, d, c, 4000 * lap + 1, rfl, p3, by omega, fun b vb H4 hang hnd hbl hnr m4 p4 hvb => fin _ _ ⟨b, vb, rfl, hang, hnd, hbl, hnr, p4.more (by omega), hvb⟩⟩
    · subst es
      exact s_ret ev_bl fun v Hz ez hv => by
        obtain rfl : v = .bl true := hv
        exact q _
end
end TB
set_option Elab.async false
set_option linter.all false
set_option maxRecDepth 100000
set_option maxHeartbeats 4000000
/-! J44: all together. -/
namespace TB
open PySem PySem.Spec PyProof.Rows L2
theorem txt_mk {K : PySem.W.Frag} {h : Heap} {mg : Str → Option Value} (X : K.In h) (G : h.Ns mainGlobals mg) {x qual : Str} {st : Stmt} {f : Addr} {oc : Value} {od an : Option Addr} {osl : Array (Option Value)} {kV doc pm cdv ct : Value} {ps : List Str} (a : PySem.W.nsIn K mainGlobals x = some (some (.ref f)))
    (l : K.lookup f = some ⟨oc, od, .func (PySem.W.fnOf x qual (defArgs st) (defBody st) (defScope st) .none kV doc pm an cdv ct), osl⟩) (c : PySem.W.codeIn K cdv qual = true) (k : PySem.W.keepIn K (.ref f) = true)
    (hb : ∀ (kV doc pm : Value) (an : Option Addr) (cdv ct : Value) (us : List Value), us.length = ps.length → bindArgs (PySem.W.fnOf x qual (defArgs st) (defBody st) (defScope st) .none kV doc pm an cdv ct) ⟨us, []⟩ = pure (ps.zip us)) : Txt K mg x qual st ps :=
  ⟨f, _, fun_mk l c k, PySem.W.mg_of X G a, (fun_mk l c k).binds hb⟩
theorem all44 {l : PySem.W.OpenLaw} {w : World} {K : PySem.W.Frag} {h : Heap} {mg : Str → Option Value} {fa C f1 f2 : Addr} (X : K.In h) (G : h.Ns mainGlobals mg) (hfa : mg "law" = some (.ref fa))
    {od1 an1 od2 an2 : Option Addr} {sl1 sl2 : Array (Option Value)} {oc1 kV1 dc1 pm1 cd1 ct1 oc2 kV2 dc2 pm2 cd2 ct2 : Value}
    (aC : PySem.W.nsIn K mainGlobals "Step" = some (some (.ref C)))
    (a1 : PySem.W.findIn K (.ref C) "__init__" = some (some (.ref f1))) (i1 : PySem.W.isFn K (.ref f1) = true) (l1 : K.lookup f1 = some ⟨oc1, od1, .func (PySem.W.fnOf "__init__" "Step.__init__" (defArgs s_Step___init) (defBody s_Step___init) (defScope s_Step___init) .none kV1 dc1 pm1 an1 cd1 ct1), sl1⟩) (c1 : PySem.W.codeIn K cd1 "Step.__init__" = true) (k1 : PySem.W.keepIn K (.ref f1) = true)
    (a2 : PySem.W.nsIn K mainGlobals "law" = some (some (.ref f2))) (l2 : K.lookup f2 = some ⟨oc2, od2, .func (PySem.W.fnOf "law" "law" (defArgs s_law) (defBody s_law) (defScope s_law) .none kV2 dc2 pm2 an2 cd2 ct2), sl2⟩) (c2 : PySem.W.codeIn K cd2 "law" = true) (k2 : PySem.W.keepIn K (.ref f2) = true)
    (pg : PySem.W.plainGet K C Str.empty = true) (hd : PySem.W.hasDictIn K C = true) (po : PySem.W.plainOver K C = true) (sa : PySem.W.findIn K (.ref C) "__setattr__" = some (some (.builtin "object.__setattr__"))) (mk : PySem.W.makesIn K C = true) (kc : PySem.W.keepIn K (.ref C) = true)
    (n1 : PySem.W.findIn K (.ref C) "start" = some none) (n2 : PySem.W.findIn K (.ref C) "end" = some none) (n3 : PySem.W.findIn K (.ref C) "support" = some none) (n4 : PySem.W.findIn K (.ref C) "witness" = some none)
    (z_len : PySem.W.nsIn K mainGlobals "len" = some none)
    (z_range : PySem.W.nsIn K mainGlobals "range" = some none)
    (z_sorted : PySem.W.nsIn K mainGlobals "sorted" = some none)
    (z_list : PySem.W.nsIn K mainGlobals "list" = some none)
    (z_tuple : PySem.W.nsIn K mainGlobals "tuple" = some none)
    (z_set : PySem.W.nsIn K mainGlobals "set" = some none)
    (z_isinstance : PySem.W.nsIn K mainGlobals "isinstance" = some none)
    (z_int : PySem.W.nsIn K mainGlobals "int" = some none)
    (z_bool : PySem.W.nsIn K mainGlobals "bool" = some none)
    (z_max : PySem.W.nsIn K mainGlobals "max" = some none)
    (z_min : PySem.W.nsIn K mainGlobals "min" = some none)
    (z_abs : PySem.W.nsIn K mainGlobals "abs" = some none)
    (z_all : PySem.W.nsIn K mainGlobals "all" = some none)
    (z_enumerate : PySem.W.nsIn K mainGlobals "enumerate" = some none)
    (z_zip : PySem.W.nsIn K mainGlobals "zip" = some none) (z_repr : PySem.W.nsIn K mainGlobals "repr" = some none)
    (Ih1 : PySem.W.findIn K (.ref C) "__class__" = some (some (.builtin "object.__class__"))) (Ih2 : PySem.W.specialIn K (.builtin "object.__class__") "__get__" = some (some (.builtin "getset_descriptor.__get__"))) (Ih3 : PySem.W.takesIn K (.builtin "object.__class__") = some true) (Ih4 : PySem.W.mroIn K C (.type "object") = some true)
    {CN fN CS : Addr} {nmN qN : Str} {NN : Addr} {bsN : List Value} {snN : List Str} {subN : List Value} {abN : Bool} {colN : Option Bool} {ddN : Option Addr} {mN0 mN1 mN2 mN3 mN5 : Option Value} {odN anN : Option Addr} {slN : Array (Option Value)} {ocN kVN dcN pmN cdN ctN : Value}
    (NaC : PySem.W.nsIn K mainGlobals "NotKept" = some (some (.ref CN)))
    (NxL : K.lookup CN = some (excClassObj nmN qN CN NN bsN [.ref CS, .type "ValueError", .type "Exception", .type "BaseException", .type "object"] true snN subN abN colN ddN mN0 mN1 mN2 mN3 mN5 "ValueError.__new__"))
    (Nsa : PySem.W.findIn K (.ref CN) "__setattr__" = some (some (.builtin "object.__setattr__"))) (Nga : PySem.W.findIn K (.ref CN) "__getattribute__" = some (some (.builtin "BaseException.__getattribute__"))) (Ngg : PySem.W.findIn K (.ref CN) "__getattr__" = some none)
    (Nn1 : PySem.W.findIn K (.ref CN) "promise" = some none) (Nn2 : PySem.W.findIn K (.ref CN) "witness" = some none) (Na1 : PySem.W.findIn K (.ref CN) "__init__" = some (some (.ref fN))) (Nt1 : PySem.W.typeIn K (.ref fN) = some (.type "function"))
    (Nl1 : K.lookup fN = some ⟨ocN, odN, .func (PySem.W.fnOf "__init__" "NotKept.__init__" (defArgs s_NotKept___init) (defBody s_NotKept___init) (defScope s_NotKept___init) .none kVN dcN pmN anN cdN ctN), slN⟩) (Nc1 : PySem.W.codeIn K cdN "NotKept.__init__" = true) (Nk1 : PySem.W.keepIn K (.ref fN) = true)
    (NkC : PySem.W.keepIn K (.ref CN) = true) (NeC : PySem.W.subIn K (.ref CN) (.type "BaseException") = some true) (NtC : PySem.W.typeIn K (.ref CN) = some (.type "type")) (NhC : PySem.W.hasDictIn K CN = true) (NiC : PySem.W.isClsIn K CN = true) (NsC : PySem.W.subIn K (.ref CN) (.ref CN) = some true)
    {CT fT DT : Addr} {nmT qT : Str} {NT : Addr} {bsT : List Value} {snT : List Str} {subT : List Value} {abT : Bool} {colT : Option Bool} {ddT : Option Addr} {mT0 mT1 mT2 mT3 mT5 : Option Value} {odT anT : Option Addr} {slT : Array (Option Value)} {ocT kVT dcT pmT cdT ctT : Value}
    (TaC : PySem.W.nsIn K mainGlobals "NotThere" = some (some (.ref CT)))
    (TxL : K.lookup CT = some (excClassObj nmT qT CT NT bsT [.ref DT, .type "ValueError", .type "Exception", .type "BaseException", .type "object"] true snT subT abT colT ddT mT0 mT1 mT2 mT3 mT5 "ValueError.__new__"))
    (Tsa : PySem.W.findIn K (.ref CT) "__setattr__" = some (some (.builtin "object.__setattr__"))) (Tga : PySem.W.findIn K (.ref CT) "__getattribute__" = some (some (.builtin "BaseException.__getattribute__"))) (Tgg : PySem.W.findIn K (.ref CT) "__getattr__" = some none)
    (Tn1 : PySem.W.findIn K (.ref CT) "cell" = some none) (Ta1 : PySem.W.findIn K (.ref CT) "__init__" = some (some (.ref fT))) (Tt1 : PySem.W.typeIn K (.ref fT) = some (.type "function"))
    (Tl1 : K.lookup fT = some ⟨ocT, odT, .func (PySem.W.fnOf "__init__" "NotThere.__init__" (defArgs s_NotThere___init) (defBody s_NotThere___init) (defScope s_NotThere___init) .none kVT dcT pmT anT cdT ctT), slT⟩) (Tc1 : PySem.W.codeIn K cdT "NotThere.__init__" = true) (Tk1 : PySem.W.keepIn K (.ref fT) = true)
    (TkC : PySem.W.keepIn K (.ref CT) = true) (TeC : PySem.W.subIn K (.ref CT) (.type "BaseException") = some true) (TtC : PySem.W.typeIn K (.ref CT) = some (.type "type")) (ThC : PySem.W.hasDictIn K CT = true) (TiC : PySem.W.isClsIn K CT = true) (TsC : PySem.W.subIn K (.ref CT) (.ref CT) = some true)
    {CB fB DB : Addr} {nmB qB : Str} {NB : Addr} {bsB : List Value} {snB : List Str} {subB : List Value} {abB : Bool} {colB : Option Bool} {ddB : Option Addr} {mB0 mB1 mB2 mB3 mB5 : Option Value} {odB anB : Option Addr} {slB : Array (Option Value)} {ocB kVB dcB pmB cdB ctB : Value}
    (BaC : PySem.W.nsIn K mainGlobals "BadBody" = some (some (.ref CB)))
    (BxL : K.lookup CB = some (excClassObj nmB qB CB NB bsB [.ref DB, .type "ValueError", .type "Exception", .type "BaseException", .type "object"] true snB subB abB colB ddB mB0 mB1 mB2 mB3 mB5 "ValueError.__new__"))
    (Bsa : PySem.W.findIn K (.ref CB) "__setattr__" = some (some (.builtin "object.__setattr__"))) (Bga : PySem.W.findIn K (.ref CB) "__getattribute__" = some (some (.builtin "BaseException.__getattribute__"))) (Bgg : PySem.W.findIn K (.ref CB) "__getattr__" = some none)
    (Bn1 : PySem.W.findIn K (.ref CB) "cells" = some none) (Ba1 : PySem.W.findIn K (.ref CB) "__init__" = some (some (.ref fB))) (Bt1 : PySem.W.typeIn K (.ref fB) = some (.type "function"))
    (Bl1 : K.lookup fB = some ⟨ocB, odB, .func (PySem.W.fnOf "__init__" "BadBody.__init__" (defArgs s_BadBody___init) (defBody s_BadBody___init) (defScope s_BadBody___init) .none kVB dcB pmB anB cdB ctB), slB⟩) (Bc1 : PySem.W.codeIn K cdB "BadBody.__init__" = true) (Bk1 : PySem.W.keepIn K (.ref fB) = true)
    (BkC : PySem.W.keepIn K (.ref CB) = true) (BeC : PySem.W.subIn K (.ref CB) (.type "BaseException") = some true) (BtC : PySem.W.typeIn K (.ref CB) = some (.type "type")) (BhC : PySem.W.hasDictIn K CB = true) (BiC : PySem.W.isClsIn K CB = true) (BsC : PySem.W.subIn K (.ref CB) (.ref CB) = some true)
    (BtsC : PySem.W.subIn K (.ref CB) (.ref CT) = some false)
    (T_is_whole : Txt K mg "is_whole" "is_whole" s_is_whole ["value"])
    (T_is_cell : Txt K mg "is_cell" "is_cell" s_is_cell ["value"])
    (T_check_cell : Txt K mg "check_cell" "check_cell" s_check_cell ["value"])
    (T_beside : Txt K mg "beside" "beside" s_beside ["cell"])
    (T_taken_part : Txt K mg "taken_part" "taken_part" s_taken_part ["left", "cell"])
    (T_parts_of : Txt K mg "parts_of" "parts_of" s_parts_of ["cells"])
    (T_hangs : Txt K mg "hangs" "hangs" s_hangs ["cells"])
    (T_is_free : Txt K mg "is_free" "is_free" s_is_free ["body", "cell"])
    (T_supports_of : Txt K mg "supports_of" "supports_of" s_supports_of ["squares", "start", "end"])
    (T_squares_of : Txt K mg "squares_of" "squares_of" s_squares_of ["body"])
    (T_kind_of : Txt K mg "kind_of" "kind_of" s_kind_of ["body", "start", "end"])
    (T_done : Txt K mg "done" "done" s_done ["body", "start", "end"])
    (T_holds : Txt K mg "holds" "holds" s_holds ["body", "step"])
    (T_law_pen : Txt K mg "_law_pen" "_law_pen" s_law_pen ["_law_script"])
    (T_law_draw : Txt K mg "_law_draw" "_law_draw" s_law_draw ["_law_pen_here", "_law_many"])
    (T_law_pick : Txt K mg "_law_pick" "_law_pick" s_law_pick ["_law_pen_here", "_law_some"])
    (T_law_t2_beside : Txt K mg "_law_t2_beside" "_law_t2_beside" s_law_t2_beside ["_law_cell"])
    (T_law_t2_parts : Txt K mg "_law_t2_parts" "_law_t2_parts" s_law_t2_parts ["_law_cells"])
    (T_law_t2_blob : Txt K mg "_law_t2_blob" "_law_t2_blob" s_law_t2_blob ["_law_pen_here", "_law_many", "_law_taste"])
    (T_law_t2_way : Txt K mg "_law_t2_way" "_law_t2_way" s_law_t2_way ["_law_steps", "_law_turns"])
    (T_law_t2_cells : Txt K mg "_law_t2_cells" "_law_t2_cells" s_law_t2_cells ["_law_pen_here", "_law_most"])
    (T_law_t2_body : Txt K mg "_law_t2_body" "_law_t2_body" s_law_t2_body ["_law_pen_here", "_law_most"])
    (T_law_t2_squares : Txt K mg "_law_t2_squares" "_law_t2_squares" s_law_t2_squares ["_law_body"])
    (T_law_t2_hangs : Txt K mg "_law_t2_hangs" "_law_t2_hangs" s_law_t2_hangs ["_law_cells"])
    (T_law_t2_free : Txt K mg "_law_t2_free" "_law_t2_free" s_law_t2_free ["_law_body", "_law_cell"])
    (T_law_t2_supports : Txt K mg "_law_t2_supports" "_law_t2_supports" s_law_t2_supports ["_law_squares", "_law_start", "_law_end"])
    (T_law_t2_kind : Txt K mg "_law_t2_kind" "_law_t2_kind" s_law_t2_kind ["_law_body", "_law_start", "_law_end"])
    (T_law_t2_around : Txt K mg "_law_t2_around" "_law_t2_around" s_law_t2_around ["_law_cell"])
    (T_law_t2_moves : Txt K mg "_law_t2_moves" "_law_t2_moves" s_law_t2_moves ["_law_body"])
    (T_law_t2_done : Txt K mg "_law_t2_done" "_law_t2_done" s_law_t2_done ["_law_body", "_law_start", "_law_end"])
    (T_law_t2_plan : Txt K mg "_law_t2_plan" "_law_t2_plan" s_law_t2_plan ["_law_pen_here", "_law_body", "_law_many"])
    (T_law_t2_witness : Txt K mg "_law_t2_witness" "_law_t2_witness" s_law_t2_witness ["_law_body", "_law_start"])
    (T_law_t2_papers : Txt K mg "_law_t2_papers" "_law_t2_papers" s_law_t2_papers ["_law_body", "_law_plan"])
    (T_law_t2_told_papers : Txt K mg "_law_t2_told_papers" "_law_t2_told_papers" s_law_t2_told_papers ["_law_steps"])
    (T_plan_of : Txt K mg "plan_of" "plan_of" s_plan_of ["steps"])
    (T_first_loose : Txt K mg "first_loose" "first_loose" s_first_loose ["body", "steps"])
    (T_law_is_whole : Txt K mg "_law_is_whole" "_law_is_whole" s_law_is_whole ["_law_value"])
    (T_law_t2_is_cell : Txt K mg "_law_t2_is_cell" "_law_t2_is_cell" s_law_t2_is_cell ["_law_one"])
    (T_law_t2_first_wrong : Txt K mg "_law_t2_first_wrong" "_law_t2_first_wrong" s_law_t2_first_wrong ["_law_body", "_law_plan"])
    (T_neighbours_of : Txt K mg "neighbours_of" "neighbours_of" s_neighbours_of ["body", "cell"])
    (T_is_move : Txt K mg "is_move" "is_move" s_is_move ["body", "pair"])
    (T_walked : Txt K mg "walked" "walked" s_walked ["body", "plan"])
    (T_first_wrong : Txt K mg "first_wrong" "first_wrong" s_first_wrong ["body", "plan"])
    (T_distances_from : Txt K mg "distances_from" "distances_from" s_distances_from ["root", "squares"])
    (T_witness_of : Txt K mg "witness_of" "witness_of" s_witness_of ["body", "start"])
    (T_steps_of : Txt K mg "steps_of" "steps_of" s_steps_of ["body", "plan"])
    (T_law_t2_asked : Txt K mg "_law_t2_asked" "_law_t2_asked" s_law_t2_asked ["_law_body", "_law_start"])
    (T_law_t2_due : Txt K mg "_law_t2_due" "_law_t2_due" s_law_t2_due ["_law_body", "_law_start"])
    (T_law_t2_steps_told : Txt K mg "_law_t2_steps_told" "_law_t2_steps_told" s_law_t2_steps_told ["_law_body", "_law_plan"])
    (T_law_t2_channel : Txt K mg "_law_t2_channel" "_law_t2_channel" s_law_t2_channel ["_law_pen_here"])
    : ∃ fd : FuncData, (∀ (s : Shared) (v : Value), BindsTo s fd ⟨[v], []⟩ [("_law_script", v)]) ∧ ∀ base : Heap, K.In base → base.Ns mainGlobals mg → FnC l.prog w K mg base fa fd ["_law_script"] (spLaw44 K) := by
  have e := hfa.symm.trans (PySem.W.mg_of X G a2)
  cases e
  have Z : Blt mg := ⟨PySem.W.mg_none_of X G z_len, PySem.W.mg_none_of X G z_range, PySem.W.mg_none_of X G z_sorted, PySem.W.mg_none_of X G z_list, PySem.W.mg_none_of X G z_tuple, PySem.W.mg_none_of X G z_set, PySem.W.mg_none_of X G z_isinstance, PySem.W.mg_none_of X G z_int, PySem.W.mg_none_of X G z_bool, PySem.W.mg_none_of X G z_max, PySem.W.mg_none_of X G z_min, PySem.W.mg_none_of X G z_abs, PySem.W.mg_none_of X G z_all, PySem.W.mg_none_of X G z_enumerate⟩
  have TC : ClsT K C := ⟨⟨pg, hd, po, sa⟩, n1, n2, n3, n4⟩
  have F1 := fun_mk (st := s_Step___init) l1 c1 k1
  have b1 := F1.binds (ps := ["self", "start", "end", "support", "witness"]) fun _ _ _ _ _ _ us hl => match us, hl with | [_, _, _, _, _], _ => rfl
  refine ⟨PySem.W.fnOf "law" "law" (defArgs s_law) (defBody s_law) (defScope s_law) .none kV2 dc2 pm2 an2 cd2 ct2, fun s v => .of_eq rfl, fun base _ _ => ?_⟩
  have M : StepM l.prog w K mg base C := ⟨f1, _, ⟨mk, a1, i1, kc⟩, ok_init F1 TC, PySem.W.mg_of X G aC, b1⟩
  have Zr : BltR mg := { toBlt := Z, zip := PySem.W.mg_none_of X G z_zip, repr := PySem.W.mg_none_of X G z_repr }
  have IS : IsS K C := ⟨Ih1, Ih2, Ih3, Ih4⟩
  have FN := fun_mk (st := s_NotKept___init) Nl1 Nc1 Nk1
  have bN := FN.binds (ps := ["self", "promise", "witness"]) fun _ _ _ _ _ _ us hl => match us, hl with | [_, _, _], _ => rfl
  have OX : OexC K CN := ⟨⟨_, _, _, _, _, _, _, _, _, _, _, _, _, _, _, NxL, rfl⟩, Nsa, NeC, NtC, NkC⟩
  have Nte : PySem.W.exmOne K (.ref CN) (.ref CN) = some true := by
    unfold PySem.W.exmOne
    rw [if_pos (by rw [NeC]; rfl)]
    show (if ((PySem.W.clsIn K CN).isSome && (PySem.W.typeIn K (.ref CN) == some (.type "type"))) = true then PySem.W.subIn K (.ref CN) (.ref CN) else none) = some true
    have e : (PySem.W.clsIn K CN).isSome = true := NiC
    rw [e, NtC, if_pos (by rfl)]
    exact NsC
  have NM : NkM l.prog w K mg base CN := ⟨⟨fN, _, Na1, Nt1, ok_nkinit FN OX Nn1 Nn2, bN⟩, OX, PySem.W.mg_of X G NaC, ⟨Nga, Ngg, NeC, NhC⟩, Nn1, Nn2, Nte⟩
  have FT := fun_mk (st := s_NotThere___init) Tl1 Tc1 Tk1
  have bT := FT.binds (ps := ["self", "cell"]) fun _ _ _ _ _ _ us hl => match us, hl with | [_, _], _ => rfl
  have OT : OexC K CT := ⟨⟨_, _, _, _, _, _, _, _, _, _, _, _, _, _, _, TxL, rfl⟩, Tsa, TeC, TtC, TkC⟩
  have Tte : PySem.W.exmOne K (.ref CT) (.ref CT) = some true := by
    unfold PySem.W.exmOne
    rw [if_pos (by rw [TeC]; rfl)]
    show (if ((PySem.W.clsIn K CT).isSome && (PySem.W.typeIn K (.ref CT) == some (.type "type"))) = true then PySem.W.subIn K (.ref CT) (.ref CT) else none) = some true
    have e : (PySem.W.clsIn K CT).isSome = true := TiC
    rw [e, TtC, if_pos (by rfl)]
    exact TsC
  have TM : E1M l.prog w K mg base CT "NotThere" "cell" := ⟨⟨fT, _, Ta1, Tt1, ok_ntinit FT OT Tn1, bT⟩, OT, PySem.W.mg_of X G TaC, ⟨Tga, Tgg, TeC, ThC⟩, Tn1, Tte⟩
  have FB := fun_mk (st := s_BadBody___init) Bl1 Bc1 Bk1
  have bB := FB.binds (ps := ["self", "cells"]) fun _ _ _ _ _ _ us hl => match us, hl with | [_, _], _ => rfl
  have OB : OexC K CB := ⟨⟨_, _, _, _, _, _, _, _, _, _, _, _, _, _, _, BxL, rfl⟩, Bsa, BeC, BtC, BkC⟩
  have Bte : PySem.W.exmOne K (.ref CB) (.ref CB) = some true := by
    unfold PySem.W.exmOne
    rw [if_pos (by rw [BeC]; rfl)]
    show (if ((PySem.W.clsIn K CB).isSome && (PySem.W.typeIn K (.ref CB) == some (.type "type"))) = true then PySem.W.subIn K (.ref CB) (.ref CB) else none) = some true
    have e : (PySem.W.clsIn K CB).isSome = true := BiC
    rw [e, BtC, if_pos (by rfl)]
    exact BsC
  have BM : E1M l.prog w K mg base CB "BadBody" "cells" := ⟨⟨fB, _, Ba1, Bt1, ok_bbinit FB OB Bn1, bB⟩, OB, PySem.W.mg_of X G BaC, ⟨Bga, Bgg, BeC, BhC⟩, Bn1, Bte⟩
  have Btb : PySem.W.exmOne K (.ref CB) (.ref CT) = some false := by
    unfold PySem.W.exmOne
    rw [if_pos (by rw [TeC]; rfl)]
    show (if ((PySem.W.clsIn K CT).isSome && (PySem.W.typeIn K (.ref CT) == some (.type "type"))) = true then PySem.W.subIn K (.ref CB) (.ref CT) else none) = some false
    have e : (PySem.W.clsIn K CT).isSome = true := TiC
    rw [e, TtC, if_pos (by rfl)]
    exact BtsC
  have C_is_whole := ok_is_whole (P := l.prog) (w := w) (base := base) T_is_whole Z
  have C_is_cell := ok_is_cell (P := l.prog) (w := w) (base := base) T_is_cell Z C_is_whole
  have C_check_cell := ok_check_cell (P := l.prog) (w := w) (base := base) T_check_cell C_is_cell
  have C_beside := ok_beside (P := l.prog) (w := w) (base := base) T_beside C_check_cell
  have C_taken_part := ok_taken (P := l.prog) (w := w) (base := base) T_taken_part Z C_beside
  have C_parts_of := ok_parts_of (P := l.prog) (w := w) (base := base) T_parts_of Z C_check_cell C_taken_part
  have C_hangs := ok_hangs (P := l.prog) (w := w) (base := base) T_hangs Z C_parts_of
  have C_is_free := ok_is_free (P := l.prog) (w := w) (base := base) T_is_free Z C_hangs
  have C_supports_of := ok_supports_of (P := l.prog) (w := w) (base := base) T_supports_of Z
  have C_squares_of := ok_squares_of (P := l.prog) (w := w) (base := base) T_squares_of Z
  have C_kind_of := ok_kind_of (P := l.prog) (w := w) (base := base) T_kind_of Z C_check_cell C_supports_of C_squares_of C_is_free
  have C_done := ok_done (P := l.prog) (w := w) (base := base) T_done Z C_kind_of
  have C_holds := ok_holds (P := l.prog) (w := w) (base := base) T_holds Z TC C_squares_of C_supports_of C_hangs C_beside
  have C_law_pen := ok_law_pen (P := l.prog) (w := w) (base := base) T_law_pen Z
  have C_law_draw := ok_law_draw (P := l.prog) (w := w) (base := base) T_law_draw Z
  have C_law_pick := ok_law_pick (P := l.prog) (w := w) (base := base) T_law_pick Z C_law_draw
  have C_law_t2_beside := ok_law_beside (P := l.prog) (w := w) (base := base) T_law_t2_beside
  have C_law_t2_parts := ok_law_parts (P := l.prog) (w := w) (base := base) T_law_t2_parts Z C_law_t2_beside
  have C_law_t2_partsT := ok_law_partsT (P := l.prog) (w := w) (base := base) T_law_t2_parts Z C_law_t2_beside
  have C_law_t2_blob := ok_law_blob (P := l.prog) (w := w) (base := base) T_law_t2_blob Z C_law_draw C_law_pick C_law_t2_beside
  have C_law_t2_way := ok_law_way (P := l.prog) (w := w) (base := base) T_law_t2_way Z
  have C_law_t2_cells := ok_law_cells (P := l.prog) (w := w) (base := base) T_law_t2_cells Z C_law_draw C_law_t2_blob C_law_t2_way
  have C_law_t2_squares := ok_law_squares (P := l.prog) (w := w) (base := base) T_law_t2_squares Z
  have C_law_t2_hangs := ok_law_hangs (P := l.prog) (w := w) (base := base) T_law_t2_hangs Z C_law_t2_parts
  have C_law_t2_hangsT := ok_law_hangsT (P := l.prog) (w := w) (base := base) T_law_t2_hangs Z C_law_t2_partsT
  have C_law_t2_free := ok_law_free (P := l.prog) (w := w) (base := base) T_law_t2_free Z C_law_t2_hangs
  have C_law_t2_supports := ok_law_supports (P := l.prog) (w := w) (base := base) T_law_t2_supports Z
  have C_law_t2_kind := ok_law_kind (P := l.prog) (w := w) (base := base) T_law_t2_kind Z C_law_t2_supports C_law_t2_squares C_law_t2_free
  have C_law_t2_around := ok_law_around (P := l.prog) (w := w) (base := base) T_law_t2_around Z
  have C_law_t2_moves := ok_law_moves (P := l.prog) (w := w) (base := base) T_law_t2_moves Z C_law_t2_supports C_law_t2_squares C_law_t2_free C_law_t2_around
  have C_law_t2_done := ok_law_done (P := l.prog) (w := w) (base := base) T_law_t2_done Z
  have C_law_t2_plan := ok_law_plan (P := l.prog) (w := w) (base := base) T_law_t2_plan Z C_law_draw C_law_pick C_law_t2_moves C_law_t2_done
  have C_law_t2_told_papers := ok_law_told (P := l.prog) (w := w) (base := base) T_law_t2_told_papers Z TC
  have C_is_wholeA := ok_is_wholeA (P := l.prog) (w := w) (base := base) T_is_whole Z
  have C_is_cellA := ok_is_cellA (P := l.prog) (w := w) (base := base) T_is_cell Z C_is_wholeA
  have C_law_t2_body := ok_law_bodyB (P := l.prog) (w := w) (base := base) T_law_t2_body Z C_law_draw C_law_pick C_law_t2_cells
  have C_law_t2_channel := ok_law_channel (P := l.prog) (w := w) (base := base) T_law_t2_channel Z C_law_draw
  have C_law_t2_witness := ok_law_witnessX (P := l.prog) (w := w) (base := base) T_law_t2_witness Z C_law_t2_squares C_law_t2_beside
  have C_law_t2_papers := ok_law_papersX (P := l.prog) (w := w) (base := base) T_law_t2_papers Z C_law_t2_supports C_law_t2_squares C_law_t2_witness C_law_t2_done
  have C_law_pickV := ok_law_pickV (P := l.prog) (w := w) (base := base) T_law_pick Z C_law_draw
  have C_first_loose := ok_first_looseG (P := l.prog) (w := w) (base := base) T_first_loose Z TC C_holds C_done
  have C_plan_of := ok_plan_ofA (P := l.prog) (w := w) (base := base) T_plan_of Z TC
  have C_neighbours_of := ok_neighbours_of (P := l.prog) (w := w) (base := base) T_neighbours_of Z C_beside
  have C_distances_from := ok_distances_from (P := l.prog) (w := w) (base := base) T_distances_from Z C_beside
  have C_witness_of := ok_witness_of (P := l.prog) (w := w) (base := base) T_witness_of Z TM BM C_beside C_hangs C_squares_of C_neighbours_of C_distances_from
  have C_is_move := ok_is_move (P := l.prog) (w := w) (base := base) T_is_move Z C_is_cellA C_kind_of
  have C_walked := ok_walked (P := l.prog) (w := w) (base := base) T_walked Z C_is_move C_done
  have C_first_wrong := ok_first_wrong (P := l.prog) (w := w) (base := base) T_first_wrong Z C_walked
  have C_steps_of := ok_steps_of (P := l.prog) (w := w) (base := base) T_steps_of Z NM M C_first_wrong C_supports_of C_squares_of C_witness_of C_done
  have C_law_t2_asked := ok_law_asked (P := l.prog) (w := w) (base := base) T_law_t2_asked Z TM BM Btb C_witness_of
  have C_law_t2_due := ok_law_due (P := l.prog) (w := w) (base := base) T_law_t2_due Z C_law_t2_hangs C_law_t2_witness
  have C_law_t2_steps_told := ok_law_steps_told (P := l.prog) (w := w) (base := base) T_law_t2_steps_told Z NM C_steps_of C_law_t2_told_papers
  have C_law_is_whole := ok_law_is_whole (P := l.prog) (w := w) (base := base) T_law_is_whole Z
  have C_law_t2_is_cell := ok_law_is_cell (P := l.prog) (w := w) (base := base) T_law_t2_is_cell Z C_law_is_whole
  have C_law_t2_first_wrong := ok_law_first_wrong (P := l.prog) (w := w) (base := base) T_law_t2_first_wrong Z C_law_t2_is_cell C_law_t2_kind C_law_t2_done
  exact ok_law (fun_mk (st := s_law) l2 c2 k2) Zr TC IS (PySem.W.mg_of X G aC) C_law_pen C_law_draw C_law_t2_body C_law_t2_channel C_law_t2_plan C_law_pickV C_law_t2_around C_law_t2_beside C_law_t2_asked C_law_t2_due C_law_t2_papers C_steps_of C_law_t2_told_papers C_plan_of C_first_loose C_law_t2_hangsT C_law_t2_first_wrong C_law_t2_steps_told
theorem walk44 {l : PySem.W.OpenLaw} {q : Program} {loose : List Str} {XP : (Str → Option Value) → Heap → Prop} {YP : World → Heap → Prop} {d : DefRec} {K : Params → PySem.W.Frag} (hn : l.most = some 63) (hdf : d.params.defaults = [])
    (hY : ∀ (w : World) (h : Heap), YP w h → (K w.params).In h)
    (F : ∀ (w : World) (mg : Str → Option Value) (fa : Addr) (h : Heap), (K w.params).In h → h.Ns mainGlobals mg → mg d.name = some (.ref fa) →
      ∃ fd : FuncData, (∀ (s : Shared) (u : Value), BindsTo s fd ⟨[u], []⟩ [("_law_script", u)]) ∧ ∀ base : Heap, (K w.params).In base → base.Ns mainGlobals mg → FnC l.prog w (K w.params) mg base fa fd ["_law_script"] (spLaw44 (K w.params))) :
    PySem.W.WalkO q loose XP YP l.row.toRowW d [] (fun f vs => PySem.call f vs) :=
  walkC (n := 63) (x := "_law_script") (sp := fun w => spLaw44 (K w.params)) hn (by decide) hdf hY F fun _ _ a ns hl hS => ⟨a, ns, rfl, hS, hl, fun _ => rfl⟩
end TB
set_option Elab.async false
set_option linter.all false
open PySem PySem.W PyProof.Rows
set_option maxRecDepth 100000 in
set_option maxHeartbeats 0 in
theorem PySem.Challenge.cw_slideinto_k44_whole_witnesses_holds : PySem.Challenge.rw_slideinto_k44_whole_witnesses.Holds := by
  w_on; o_law; k_head; (case hw => w_witness2)
  k_fill
  refine TB.walk44 (l := PySem.Challenge.rw_slideinto_k44_whole_witnesses) rfl rfl (fun w h Y => PySem.W.kIn_of Y) ?F
  case F =>
    intro w mg fa h KX G hmg
    have T_is_whole : TB.Txt (L2.KOf KX) mg "is_whole" "is_whole" TB.s_is_whole ["value"] := by
      refine' TB.txt_mk KX G ?a ?l ?c ?k fun _ _ _ _ _ _ us hl => match us, hl with | [_], _ => rfl
      (case a => k_is); (case l => k_is); (case c => k_is); (case k => k_is)
    have T_is_cell : TB.Txt (L2.KOf KX) mg "is_cell" "is_cell" TB.s_is_cell ["value"] := by
      refine' TB.txt_mk KX G ?a ?l ?c ?k fun _ _ _ _ _ _ us hl => match us, hl with | [_], _ => rfl
      (case a => k_is); (case l => k_is); (case c => k_is); (case k => k_is)
    have T_check_cell : TB.Txt (L2.KOf KX) mg "check_cell" "check_cell" TB.s_check_cell ["value"] := by
      refine' TB.txt_mk KX G ?a ?l ?c ?k fun _ _ _ _ _ _ us hl => match us, hl with | [_], _ => rfl
      (case a => k_is); (case l => k_is); (case c => k_is); (case k => k_is)
    have T_beside : TB.Txt (L2.KOf KX) mg "beside" "beside" TB.s_beside ["cell"] := by
      refine' TB.txt_mk KX G ?a ?l ?c ?k fun _ _ _ _ _ _ us hl => match us, hl with | [_], _ => rfl
      (case a => k_is); (case l => k_is); (case c => k_is); (case k => k_is)
    have T_taken_part : TB.Txt (L2.KOf KX) mg "taken_part" "taken_part" TB.s_taken_part ["left", "cell"] := by
      refine' TB.txt_mk KX G ?a ?l ?c ?k fun _ _ _ _ _ _ us hl => match us, hl with | [_, _], _ => rfl
      (case a => k_is); (case l => k_is); (case c => k_is); (case k => k_is)
    have T_parts_of : TB.Txt (L2.KOf KX) mg "parts_of" "parts_of" TB.s_parts_of ["cells"] := by
      refine' TB.txt_mk KX G ?a ?l ?c ?k fun _ _ _ _ _ _ us hl => match us, hl with | [_], _ => rfl
      (case a => k_is); (case l => k_is); (case c => k_is); (case k => k_is)
    have T_hangs : TB.Txt (L2.KOf KX) mg "hangs" "hangs" TB.s_hangs ["cells"] := by
      refine' TB.txt_mk KX G ?a ?l ?c ?k fun _ _ _ _ _ _ us hl => match us, hl with | [_], _ => rfl
      (case a => k_is); (case l => k_is); (case c => k_is); (case k => k_is)
    have T_is_free : TB.Txt (L2.KOf KX) mg "is_free" "is_free" TB.s_is_free ["body", "cell"] := by
      refine' TB.txt_mk KX G ?a ?l ?c ?k fun _ _ _ _ _ _ us hl => match us, hl with | [_, _], _ => rfl
      (case a => k_is); (case l => k_is); (case c => k_is); (case k => k_is)
    have T_supports_of : TB.Txt (L2.KOf KX) mg "supports_of" "supports_of" TB.s_supports_of ["squares", "start", "end"] := by
      refine' TB.txt_mk KX G ?a ?l ?c ?k fun _ _ _ _ _ _ us hl => match us, hl with | [_, _, _], _ => rfl
      (case a => k_is); (case l => k_is); (case c => k_is); (case k => k_is)
    have T_squares_of : TB.Txt (L2.KOf KX) mg "squares_of" "squares_of" TB.s_squares_of ["body"] := by
      refine' TB.txt_mk KX G ?a ?l ?c ?k fun _ _ _ _ _ _ us hl => match us, hl with | [_], _ => rfl
      (case a => k_is); (case l => k_is); (case c => k_is); (case k => k_is)
    have T_kind_of : TB.Txt (L2.KOf KX) mg "kind_of" "kind_of" TB.s_kind_of ["body", "start", "end"] := by
      refine' TB.txt_mk KX G ?a ?l ?c ?k fun _ _ _ _ _ _ us hl => match us, hl with | [_, _, _], _ => rfl
      (case a => k_is); (case l => k_is); (case c => k_is); (case k => k_is)
    have T_done : TB.Txt (L2.KOf KX) mg "done" "done" TB.s_done ["body", "start", "end"] := by
      refine' TB.txt_mk KX G ?a ?l ?c ?k fun _ _ _ _ _ _ us hl => match us, hl with | [_, _, _], _ => rfl
      (case a => k_is); (case l => k_is); (case c => k_is); (case k => k_is)
    have T_holds : TB.Txt (L2.KOf KX) mg "holds" "holds" TB.s_holds ["body", "step"] := by
      refine' TB.txt_mk KX G ?a ?l ?c ?k fun _ _ _ _ _ _ us hl => match us, hl with | [_, _], _ => rfl
      (case a => k_is); (case l => k_is); (case c => k_is); (case k => k_is)
    have T_law_pen : TB.Txt (L2.KOf KX) mg "_law_pen" "_law_pen" TB.s_law_pen ["_law_script"] := by
      refine' TB.txt_mk KX G ?a ?l ?c ?k fun _ _ _ _ _ _ us hl => match us, hl with | [_], _ => rfl
      (case a => k_is); (case l => k_is); (case c => k_is); (case k => k_is)
    have T_law_draw : TB.Txt (L2.KOf KX) mg "_law_draw" "_law_draw" TB.s_law_draw ["_law_pen_here", "_law_many"] := by
      refine' TB.txt_mk KX G ?a ?l ?c ?k fun _ _ _ _ _ _ us hl => match us, hl with | [_, _], _ => rfl
      (case a => k_is); (case l => k_is); (case c => k_is); (case k => k_is)
    have T_law_pick : TB.Txt (L2.KOf KX) mg "_law_pick" "_law_pick" TB.s_law_pick ["_law_pen_here", "_law_some"] := by
      refine' TB.txt_mk KX G ?a ?l ?c ?k fun _ _ _ _ _ _ us hl => match us, hl with | [_, _], _ => rfl
      (case a => k_is); (case l => k_is); (case c => k_is); (case k => k_is)
    have T_law_t2_beside : TB.Txt (L2.KOf KX) mg "_law_t2_beside" "_law_t2_beside" TB.s_law_t2_beside ["_law_cell"] := by
      refine' TB.txt_mk KX G ?a ?l ?c ?k fun _ _ _ _ _ _ us hl => match us, hl with | [_], _ => rfl
      (case a => k_is); (case l => k_is); (case c => k_is); (case k => k_is)
    have T_law_t2_parts : TB.Txt (L2.KOf KX) mg "_law_t2_parts" "_law_t2_parts" TB.s_law_t2_parts ["_law_cells"] := by
      refine' TB.txt_mk KX G ?a ?l ?c ?k fun _ _ _ _ _ _ us hl => match us, hl with | [_], _ => rfl
      (case a => k_is); (case l => k_is); (case c => k_is); (case k => k_is)
    have T_law_t2_blob : TB.Txt (L2.KOf KX) mg "_law_t2_blob" "_law_t2_blob" TB.s_law_t2_blob ["_law_pen_here", "_law_many", "_law_taste"] := by
      refine' TB.txt_mk KX G ?a ?l ?c ?k fun _ _ _ _ _ _ us hl => match us, hl with | [_, _, _], _ => rfl
      (case a => k_is); (case l => k_is); (case c => k_is); (case k => k_is)
    have T_law_t2_way : TB.Txt (L2.KOf KX) mg "_law_t2_way" "_law_t2_way" TB.s_law_t2_way ["_law_steps", "_law_turns"] := by
      refine' TB.txt_mk KX G ?a ?l ?c ?k fun _ _ _ _ _ _ us hl => match us, hl with | [_, _], _ => rfl
      (case a => k_is); (case l => k_is); (case c => k_is); (case k => k_is)
    have T_law_t2_cells : TB.Txt (L2.KOf KX) mg "_law_t2_cells" "_law_t2_cells" TB.s_law_t2_cells ["_law_pen_here", "_law_most"] := by
      refine' TB.txt_mk KX G ?a ?l ?c ?k fun _ _ _ _ _ _ us hl => match us, hl with | [_, _], _ => rfl
      (case a => k_is); (case l => k_is); (case c => k_is); (case k => k_is)
    have T_law_t2_body : TB.Txt (L2.KOf KX) mg "_law_t2_body" "_law_t2_body" TB.s_law_t2_body ["_law_pen_here", "_law_most"] := by
      refine' TB.txt_mk KX G ?a ?l ?c ?k fun _ _ _ _ _ _ us hl => match us, hl with | [_, _], _ => rfl
      (case a => k_is); (case l => k_is); (case c => k_is); (case k => k_is)
    have T_law_t2_squares : TB.Txt (L2.KOf KX) mg "_law_t2_squares" "_law_t2_squares" TB.s_law_t2_squares ["_law_body"] := by
      refine' TB.txt_mk KX G ?a ?l ?c ?k fun _ _ _ _ _ _ us hl => match us, hl with | [_], _ => rfl
      (case a => k_is); (case l => k_is); (case c => k_is); (case k => k_is)
    have T_law_t2_hangs : TB.Txt (L2.KOf KX) mg "_law_t2_hangs" "_law_t2_hangs" TB.s_law_t2_hangs ["_law_cells"] := by
      refine' TB.txt_mk KX G ?a ?l ?c ?k fun _ _ _ _ _ _ us hl => match us, hl with | [_], _ => rfl
      (case a => k_is); (case l => k_is); (case c => k_is); (case k => k_is)
    have T_law_t2_free : TB.Txt (L2.KOf KX) mg "_law_t2_free" "_law_t2_free" TB.s_law_t2_free ["_law_body", "_law_cell"] := by
      refine' TB.txt_mk KX G ?a ?l ?c ?k fun _ _ _ _ _ _ us hl => match us, hl with | [_, _], _ => rfl
      (case a => k_is); (case l => k_is); (case c => k_is); (case k => k_is)
    have T_law_t2_supports : TB.Txt (L2.KOf KX) mg "_law_t2_supports" "_law_t2_supports" TB.s_law_t2_supports ["_law_squares", "_law_start", "_law_end"] := by
      refine' TB.txt_mk KX G ?a ?l ?c ?k fun _ _ _ _ _ _ us hl => match us, hl with | [_, _, _], _ => rfl
      (case a => k_is); (case l => k_is); (case c => k_is); (case k => k_is)
    have T_law_t2_kind : TB.Txt (L2.KOf KX) mg "_law_t2_kind" "_law_t2_kind" TB.s_law_t2_kind ["_law_body", "_law_start", "_law_end"] := by
      refine' TB.txt_mk KX G ?a ?l ?c ?k fun _ _ _ _ _ _ us hl => match us, hl with | [_, _, _], _ => rfl
      (case a => k_is); (case l => k_is); (case c => k_is); (case k => k_is)
    have T_law_t2_around : TB.Txt (L2.KOf KX) mg "_law_t2_around" "_law_t2_around" TB.s_law_t2_around ["_law_cell"] := by
      refine' TB.txt_mk KX G ?a ?l ?c ?k fun _ _ _ _ _ _ us hl => match us, hl with | [_], _ => rfl
      (case a => k_is); (case l => k_is); (case c => k_is); (case k => k_is)
    have T_law_t2_moves : TB.Txt (L2.KOf KX) mg "_law_t2_moves" "_law_t2_moves" TB.s_law_t2_moves ["_law_body"] := by
      refine' TB.txt_mk KX G ?a ?l ?c ?k fun _ _ _ _ _ _ us hl => match us, hl with | [_], _ => rfl
      (case a => k_is); (case l => k_is); (case c => k_is); (case k => k_is)
    have T_law_t2_done : TB.Txt (L2.KOf KX) mg "_law_t2_done" "_law_t2_done" TB.s_law_t2_done ["_law_body", "_law_start", "_law_end"] := by
      refine' TB.txt_mk KX G ?a ?l ?c ?k fun _ _ _ _ _ _ us hl => match us, hl with | [_, _, _], _ => rfl
      (case a => k_is); (case l => k_is); (case c => k_is); (case k => k_is)
    have T_law_t2_plan : TB.Txt (L2.KOf KX) mg "_law_t2_plan" "_law_t2_plan" TB.s_law_t2_plan ["_law_pen_here", "_law_body", "_law_many"] := by
      refine' TB.txt_mk KX G ?a ?l ?c ?k fun _ _ _ _ _ _ us hl => match us, hl with | [_, _, _], _ => rfl
      (case a => k_is); (case l => k_is); (case c => k_is); (case k => k_is)
    have T_law_t2_witness : TB.Txt (L2.KOf KX) mg "_law_t2_witness" "_law_t2_witness" TB.s_law_t2_witness ["_law_body", "_law_start"] := by
      refine' TB.txt_mk KX G ?a ?l ?c ?k fun _ _ _ _ _ _ us hl => match us, hl with | [_, _], _ => rfl
      (case a => k_is); (case l => k_is); (case c => k_is); (case k => k_is)
    have T_law_t2_papers : TB.Txt (L2.KOf KX) mg "_law_t2_papers" "_law_t2_papers" TB.s_law_t2_papers ["_law_body", "_law_plan"] := by
      refine' TB.txt_mk KX G ?a ?l ?c ?k fun _ _ _ _ _ _ us hl => match us, hl with | [_, _], _ => rfl
      (case a => k_is); (case l => k_is); (case c => k_is); (case k => k_is)
    have T_law_t2_told_papers : TB.Txt (L2.KOf KX) mg "_law_t2_told_papers" "_law_t2_told_papers" TB.s_law_t2_told_papers ["_law_steps"] := by
      refine' TB.txt_mk KX G ?a ?l ?c ?k fun _ _ _ _ _ _ us hl => match us, hl with | [_], _ => rfl
      (case a => k_is); (case l => k_is); (case c => k_is); (case k => k_is)
    have T_plan_of : TB.Txt (L2.KOf KX) mg "plan_of" "plan_of" TB.s_plan_of ["steps"] := by
      refine' TB.txt_mk KX G ?a ?l ?c ?k fun _ _ _ _ _ _ us hl => match us, hl with | [_], _ => rfl
      (case a => k_is); (case l => k_is); (case c => k_is); (case k => k_is)
    have T_first_loose : TB.Txt (L2.KOf KX) mg "first_loose" "first_loose" TB.s_first_loose ["body", "steps"] := by
      refine' TB.txt_mk KX G ?a ?l ?c ?k fun _ _ _ _ _ _ us hl => match us, hl with | [_, _], _ => rfl
      (case a => k_is); (case l => k_is); (case c => k_is); (case k => k_is)
    have T_law_is_whole : TB.Txt (L2.KOf KX) mg "_law_is_whole" "_law_is_whole" TB.s_law_is_whole ["_law_value"] := by
      refine' TB.txt_mk KX G ?a ?l ?c ?k fun _ _ _ _ _ _ us hl => match us, hl with | [_], _ => rfl
      (case a => k_is); (case l => k_is); (case c => k_is); (case k => k_is)
    have T_law_t2_is_cell : TB.Txt (L2.KOf KX) mg "_law_t2_is_cell" "_law_t2_is_cell" TB.s_law_t2_is_cell ["_law_one"] := by
      refine' TB.txt_mk KX G ?a ?l ?c ?k fun _ _ _ _ _ _ us hl => match us, hl with | [_], _ => rfl
      (case a => k_is); (case l => k_is); (case c => k_is); (case k => k_is)
    have T_law_t2_first_wrong : TB.Txt (L2.KOf KX) mg "_law_t2_first_wrong" "_law_t2_first_wrong" TB.s_law_t2_first_wrong ["_law_body", "_law_plan"] := by
      refine' TB.txt_mk KX G ?a ?l ?c ?k fun _ _ _ _ _ _ us hl => match us, hl with | [_, _], _ => rfl
      (case a => k_is); (case l => k_is); (case c => k_is); (case k => k_is)
    have T_neighbours_of : TB.Txt (L2.KOf KX) mg "neighbours_of" "neighbours_of" TB.s_neighbours_of ["body", "cell"] := by
      refine' TB.txt_mk KX G ?a ?l ?c ?k fun _ _ _ _ _ _ us hl => match us, hl with | [_, _], _ => rfl
      (case a => k_is); (case l => k_is); (case c => k_is); (case k => k_is)
    have T_is_move : TB.Txt (L2.KOf KX) mg "is_move" "is_move" TB.s_is_move ["body", "pair"] := by
      refine' TB.txt_mk KX G ?a ?l ?c ?k fun _ _ _ _ _ _ us hl => match us, hl with | [_, _], _ => rfl
      (case a => k_is); (case l => k_is); (case c => k_is); (case k => k_is)
    have T_walked : TB.Txt (L2.KOf KX) mg "walked" "walked" TB.s_walked ["body", "plan"] := by
      refine' TB.txt_mk KX G ?a ?l ?c ?k fun _ _ _ _ _ _ us hl => match us, hl with | [_, _], _ => rfl
      (case a => k_is); (case l => k_is); (case c => k_is); (case k => k_is)
    have T_first_wrong : TB.Txt (L2.KOf KX) mg "first_wrong" "first_wrong" TB.s_first_wrong ["body", "plan"] := by
      refine' TB.txt_mk KX G ?a ?l ?c ?k fun _ _ _ _ _ _ us hl => match us, hl with | [_, _], _ => rfl
      (case a => k_is); (case l => k_is); (case c => k_is); (case k => k_is)
    have T_distances_from : TB.Txt (L2.KOf KX) mg "distances_from" "distances_from" TB.s_distances_from ["root", "squares"] := by
      refine' TB.txt_mk KX G ?a ?l ?c ?k fun _ _ _ _ _ _ us hl => match us, hl with | [_, _], _ => rfl
      (case a => k_is); (case l => k_is); (case c => k_is); (case k => k_is)
    have T_witness_of : TB.Txt (L2.KOf KX) mg "witness_of" "witness_of" TB.s_witness_of ["body", "start"] := by
      refine' TB.txt_mk KX G ?a ?l ?c ?k fun _ _ _ _ _ _ us hl => match us, hl with | [_, _], _ => rfl
      (case a => k_is); (case l => k_is); (case c => k_is); (case k => k_is)
    have T_steps_of : TB.Txt (L2.KOf KX) mg "steps_of" "steps_of" TB.s_steps_of ["body", "plan"] := by
      refine' TB.txt_mk KX G ?a ?l ?c ?k fun _ _ _ _ _ _ us hl => match us, hl with | [_, _], _ => rfl
      (case a => k_is); (case l => k_is); (case c => k_is); (case k => k_is)
    have T_law_t2_asked : TB.Txt (L2.KOf KX) mg "_law_t2_asked" "_law_t2_asked" TB.s_law_t2_asked ["_law_body", "_law_start"] := by
      refine' TB.txt_mk KX G ?a ?l ?c ?k fun _ _ _ _ _ _ us hl => match us, hl with | [_, _], _ => rfl
      (case a => k_is); (case l => k_is); (case c => k_is); (case k => k_is)
    have T_law_t2_due : TB.Txt (L2.KOf KX) mg "_law_t2_due" "_law_t2_due" TB.s_law_t2_due ["_law_body", "_law_start"] := by
      refine' TB.txt_mk KX G ?a ?l ?c ?k fun _ _ _ _ _ _ us hl => match us, hl with | [_, _], _ => rfl
      (case a => k_is); (case l => k_is); (case c => k_is); (case k => k_is)
    have T_law_t2_steps_told : TB.Txt (L2.KOf KX) mg "_law_t2_steps_told" "_law_t2_steps_told" TB.s_law_t2_steps_told ["_law_body", "_law_plan"] := by
      refine' TB.txt_mk KX G ?a ?l ?c ?k fun _ _ _ _ _ _ us hl => match us, hl with | [_, _], _ => rfl
      (case a => k_is); (case l => k_is); (case c => k_is); (case k => k_is)
    have T_law_t2_channel : TB.Txt (L2.KOf KX) mg "_law_t2_channel" "_law_t2_channel" TB.s_law_t2_channel ["_law_pen_here"] := by
      refine' TB.txt_mk KX G ?a ?l ?c ?k fun _ _ _ _ _ _ us hl => match us, hl with | [_], _ => rfl
      (case a => k_is); (case l => k_is); (case c => k_is); (case k => k_is)
    refine' TB.all44 KX G hmg ?aC ?a1 ?i1 ?l1 ?c1 ?k1 ?a2 ?l2 ?c2 ?k2 ?pg ?hd ?po ?sa ?mk ?kc ?n1 ?n2 ?n3 ?n4 ?z_len ?z_range ?z_sorted ?z_list ?z_tuple ?z_set ?z_isinstance ?z_int ?z_bool ?z_max ?z_min ?z_abs ?z_all ?z_enumerate ?z_zip ?z_repr ?Ih1 ?Ih2 ?Ih3 ?Ih4 ?NaC ?NxL ?Nsa ?Nga ?Ngg ?Nn1 ?Nn2 ?Na1 ?Nt1 ?Nl1 ?Nc1 ?Nk1 ?NkC ?NeC ?NtC ?NhC ?NiC ?NsC ?TaC ?TxL ?Tsa ?Tga ?Tgg ?Tn1 ?Ta1 ?Tt1 ?Tl1 ?Tc1 ?Tk1 ?TkC ?TeC ?TtC ?ThC ?TiC ?TsC ?BaC ?BxL ?Bsa ?Bga ?Bgg ?Bn1 ?Ba1 ?Bt1 ?Bl1 ?Bc1 ?Bk1 ?BkC ?BeC ?BtC ?BhC ?BiC ?BsC ?BtsC T_is_whole T_is_cell T_check_cell T_beside T_taken_part T_parts_of T_hangs T_is_free T_supports_of T_squares_of T_kind_of T_done T_holds T_law_pen T_law_draw T_law_pick T_law_t2_beside T_law_t2_parts T_law_t2_blob T_law_t2_way T_law_t2_cells T_law_t2_body T_law_t2_squares T_law_t2_hangs T_law_t2_free T_law_t2_supports T_law_t2_kind T_law_t2_around T_law_t2_moves T_law_t2_done T_law_t2_plan T_law_t2_witness T_law_t2_papers T_law_t2_told_papers T_plan_of T_first_loose T_law_is_whole T_law_t2_is_cell T_law_t2_first_wrong T_neighbours_of T_is_move T_walked T_first_wrong T_distances_from T_witness_of T_steps_of T_law_t2_asked T_law_t2_due T_law_t2_steps_told T_law_t2_channel
    (case aC => k_is)
    (case a1 => k_is)
    (case i1 => k_is)
    (case l1 => k_is)
    (case c1 => k_is)
    (case k1 => k_is)
    (case a2 => k_is)
    (case l2 => k_is)
    (case c2 => k_is)
    (case k2 => k_is)
    (case pg => k_is)
    (case hd => k_is)
    (case po => k_is)
    (case sa => k_is)
    (case mk => k_is)
    (case kc => k_is)
    (case n1 => k_is)
    (case n2 => k_is)
    (case n3 => k_is)
    (case n4 => k_is)
    (case z_len => k_is)
    (case z_range => k_is)
    (case z_sorted => k_is)
    (case z_list => k_is)
    (case z_tuple => k_is)
    (case z_set => k_is)
    (case z_isinstance => k_is)
    (case z_int => k_is)
    (case z_bool => k_is)
    (case z_max => k_is)
    (case z_min => k_is)
    (case z_abs => k_is)
    (case z_all => k_is)
    (case z_enumerate => k_is)
    (case z_zip => k_is)
    (case z_repr => k_is)
    (case Ih1 => k_is)
    (case Ih2 => k_is)
    (case Ih3 => k_is)
    (case Ih4 => k_is)
    (case NaC => k_is)
    (case NxL => k_is)
    (case Nsa => k_is)
    (case Nga => k_is)
    (case Ngg => k_is)
    (case Nn1 => k_is)
    (case Nn2 => k_is)
    (case Na1 => k_is)
    (case Nt1 => k_is)
    (case Nl1 => k_is)
    (case Nc1 => k_is)
    (case Nk1 => k_is)
    (case NkC => k_is)
    (case NeC => k_is)
    (case NtC => k_is)
    (case NhC => k_is)
    (case NiC => k_is)
    (case NsC => first | rfl | k_is)
    (case TaC => k_is)
    (case TxL => k_is)
    (case Tsa => k_is)
    (case Tga => k_is)
    (case Tgg => k_is)
    (case Tn1 => k_is)
    (case Ta1 => k_is)
    (case Tt1 => k_is)
    (case Tl1 => k_is)
    (case Tc1 => k_is)
    (case Tk1 => k_is)
    (case TkC => k_is)
    (case TeC => k_is)
    (case TtC => k_is)
    (case ThC => k_is)
    (case TiC => k_is)
    (case TsC => first | rfl | k_is)
    (case BaC => k_is)
    (case BxL => k_is)
    (case Bsa => k_is)
    (case Bga => k_is)
    (case Bgg => k_is)
    (case Bn1 => k_is)
    (case Ba1 => k_is)
    (case Bt1 => k_is)
    (case Bl1 => k_is)
    (case Bc1 => k_is)
    (case Bk1 => k_is)
    (case BkC => k_is)
    (case BeC => k_is)
    (case BtC => k_is)
    (case BhC => k_is)
    (case BiC => k_is)
    (case BsC => first | rfl | k_is)
    (case BtsC => first | rfl | k_is)
