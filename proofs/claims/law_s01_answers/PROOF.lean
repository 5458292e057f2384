import PyProof.Rows.All
import Wide.All
import OpenK.AllK
import Wide.FinOn
import PyProof.EqAt
import PyProof.EqKinds
import PyProof.NeKinds
import PyProof.TupleCall
import Open.SpecLaws
import KE.OsGo
import HandS.ForSpec
import HandS.Comp
import HandS.Iter
import HandS.Zip
import HandS.ExcInit
import HandS.ExcField
import PySem.Challenge.RW_disputed_s01_answers
set_option Elab.async false
set_option linter.all false
section
namespace Dis
open Kp365 (Node Desk)
/-! ### 1. Tables filled node by node -/
def tab {A : Type} (f : List A → Node → A) (l : List Node) : List A := l.foldl (fun acc n => acc ++ [f acc n]) []
section
variable {A : Type} {f : List A → Node → A}
theorem tab_nil : tab f [] = [] := rfl
theorem tab_snoc (l : List Node) (n : Node) : tab f (l ++ [n]) = tab f l ++ [f (tab f l) n] := by
  unfold tab
  rw [List.foldl_append]
  rfl
/-- induction from behind -/
theorem snoc_ind {P : List Node → Prop} (h0 : P []) (h1 : ∀ l n, P l → P (l ++ [n])) (l : List Node) : P l := by
  have key : ∀ k (l : List Node), l.length = k → P l := by
    intro k
    induction k with
    | zero =>
      intro l h
      rw [List.length_eq_zero_iff.mp h]
      exact h0
    | succ k ih =>
      intro l h
      have hne : l ≠ [] := by
        intro e
        rw [e] at h
        simp at h
      rw [← List.dropLast_concat_getLast hne]
      exact h1 _ _ (ih _ (by rw [List.length_dropLast, h]; rfl))
  exact key _ l rfl
theorem tab_len (l : List Node) : (tab f l).length = l.length := by
  refine snoc_ind (P := fun l => (tab f l).length = l.length) rfl (fun l n ih => ?_) l
  rw [tab_snoc, List.length_append, List.length_append, ih]
  rfl
theorem take_snoc {B : Type} {l : List B} {i : Nat} {n : B} (h : l[i]? = some n) : l.take (i + 1) = l.take i ++ [n] := by
  rw [List.take_add_one, h]
  rfl
theorem tab_more {l : List Node} {i : Nat} {n : Node} (h : l[i]? = some n) : tab f (l.take (i + 1)) = tab f (l.take i) ++ [f (tab f (l.take i)) n] := by
  rw [take_snoc h, tab_snoc]
theorem tab_take (l : List Node) : ∀ i, (tab f l).take i = tab f (l.take i) := by
  refine snoc_ind (P := fun l => ∀ i, (tab f l).take i = tab f (l.take i)) (fun i => by simp [tab_nil]) (fun l n ih i => ?_) l
  rw [tab_snoc]
  by_cases h : i ≤ l.length
  · rw [List.take_append_of_le_length (by rw [tab_len]; exact h), List.take_append_of_le_length h]
    exact ih i
  · have h1 : (tab f l ++ [f (tab f l) n]).length ≤ i := by
      rw [List.length_append, tab_len]
      simp
      omega
    have h2 : (l ++ [n]).length ≤ i := by
      rw [List.length_append]
      simp
      omega
    rw [List.take_of_length_le h1, List.take_of_length_le h2, tab_snoc]
theorem tab_get {l : List Node} {i : Nat} {n : Node} (h : l[i]? = some n) : (tab f l)[i]? = some (f (tab f (l.take i)) n) := by
  have e : ((tab f l).take (i + 1))[i]? = (tab f l)[i]? := by
    rw [List.getElem?_take]
    simp
  have hi : i < l.length := by
    rw [List.getElem?_eq_some_iff] at h
    exact h.1
  have hl : (tab f (l.take i)).length = i := by
    rw [tab_len, List.length_take]
    omega
  rw [← e, tab_take, tab_more h, List.getElem?_append_right (by omega), hl]
  simp
theorem tab_getD {l : List Node} {i : Nat} {n : Node} {z : A} (h : l[i]? = some n) : (tab f l).getD i z = f (tab f (l.take i)) n := by
  rw [List.getD_eq_getElem?_getD, tab_get h]
  rfl
/-- a place ahead is read alike -/
theorem tab_ahead {l : List Node} {i k : Nat} {z : A} (h : k < i) : (tab f (l.take i)).getD k z = (tab f l).getD k z := by
  rw [List.getD_eq_getElem?_getD, List.getD_eq_getElem?_getD, ← tab_take, List.getElem?_take, if_pos h]
theorem take_len {l : List Node} {i : Nat} {n : Node} (h : l[i]? = some n) : (tab f (l.take i)).length = i := by
  have hi : i < l.length := by
    rw [List.getElem?_eq_some_iff] at h
    exact h.1
  rw [tab_len, List.length_take]
  omega
end
/-! ### 2. Trees that are well formed -/
def LeafOk (n : Node) : Prop := n.kind = 0 ∧ n.so ≤ 1 ∧ n.wrong ≤ 100 ∧ n.kids = []
def UpOk (i : Nat) (n : Node) : Prop := (n.kind = 1 ∨ n.kind = 2) ∧ 1 ≤ n.kids.length ∧ n.kids.length ≤ 4 ∧ n.so = 0 ∧ n.wrong = 0 ∧ n.kids.Nodup ∧ ∀ k ∈ n.kids, k < i
structure WF (l : List Node) : Prop where
  len : l.length ≤ 20
  node : ∀ i n, l[i]? = some n → LeafOk n ∨ UpOk i n
  par : ∀ (i j : Nat) (n m : Node) (k : Nat), l[i]? = some n → l[j]? = some m → k ∈ n.kids → k ∈ m.kids → i = j
theorem lt_of_get {B : Type} {l : List B} {i : Nat} {n : B} (h : l[i]? = some n) : i < l.length := by
  rw [List.getElem?_eq_some_iff] at h
  exact h.1
theorem get_of_lt {B : Type} {l : List B} {i : Nat} (h : i < l.length) : ∃ n, l[i]? = some n := ⟨l[i], List.getElem?_eq_getElem h⟩
theorem nodeAt_eq {l : List Node} {i : Nat} {n : Node} (h : l[i]? = some n) : Kp365.nodeAt ⟨l⟩ i = n := by
  show l.getD i _ = n
  rw [List.getD_eq_getElem?_getD, h]
  rfl
theorem WF.kid {l : List Node} (W : WF l) {i k : Nat} {n : Node} (h : l[i]? = some n) (hk : k ∈ n.kids) : k < i := by
  rcases W.node i n h with L | U
  · rw [L.2.2.2] at hk
    cases hk
  · exact U.2.2.2.2.2.2 k hk
theorem WF.kidAt {l : List Node} (W : WF l) {i k : Nat} {n : Node} (h : l[i]? = some n) (hk : k ∈ n.kids) : ∃ m, l[k]? = some m :=
  get_of_lt (Nat.lt_trans (W.kid h hk) (lt_of_get h))
theorem WF.kids4 {l : List Node} (W : WF l) {i : Nat} {n : Node} (h : l[i]? = some n) : n.kids.length ≤ 4 := by
  rcases W.node i n h with L | U
  · rw [L.2.2.2]
    exact Nat.zero_le _
  · exact U.2.2.1
theorem map_kids {A : Type} {l : List Node} (W : WF l) {i : Nat} {n : Node} (h : l[i]? = some n) (f : List A → Node → A) (z : A) :
    n.kids.map (fun k => (tab f (l.take i)).getD k z) = n.kids.map (fun k => (tab f l).getD k z) :=
  List.map_congr_left fun k hk => tab_ahead (W.kid h hk)
/-! ### 3. What is true -/
def truthF (acc : List Bool) (n : Node) : Bool := if n.kind = 0 then n.so == 1 else if n.kind = 1 then n.kids.all fun k => acc.getD k false else n.kids.any fun k => acc.getD k false
theorem truthF_def (acc : List Bool) (n : Node) : truthF acc n = if n.kind = 0 then n.so == 1 else if n.kind = 1 then n.kids.all fun k => acc.getD k false else n.kids.any fun k => acc.getD k false := rfl
def truths (l : List Node) : List Bool := tab truthF l
def tr (l : List Node) (i : Nat) : Bool := (truths l).getD i false
theorem all_congr {B : Type} {l : List B} {p q : B → Bool} (h : ∀ x ∈ l, p x = q x) : l.all p = l.all q := by
  induction l with
  | nil => rfl
  | cons a r ih =>
    rw [List.all_cons, List.all_cons, h a (List.mem_cons_self ..), ih fun x hx => h x (List.mem_cons_of_mem _ hx)]
theorem any_congr {B : Type} {l : List B} {p q : B → Bool} (h : ∀ x ∈ l, p x = q x) : l.any p = l.any q := by
  induction l with
  | nil => rfl
  | cons a r ih =>
    rw [List.any_cons, List.any_cons, h a (List.mem_cons_self ..), ih fun x hx => h x (List.mem_cons_of_mem _ hx)]
theorem tr_eq {l : List Node} (W : WF l) {i : Nat} {n : Node} (h : l[i]? = some n) : tr l i = if n.kind = 0 then n.so == 1 else if n.kind = 1 then n.kids.all (tr l) else n.kids.any (tr l) := by
  unfold tr truths
  rw [tab_getD h, truthF_def, all_congr (q := fun k => (tab truthF l).getD k false) fun k hk => tab_ahead (W.kid h hk), any_congr (q := fun k => (tab truthF l).getD k false) fun k hk => tab_ahead (W.kid h hk)]
theorem goTrue_eq {l : List Node} (W : WF l) : ∀ f i, i < f → i < l.length → Kp365.goTrue ⟨l⟩ f i = tr l i := by
  intro f
  induction f with
  | zero => intro i h; omega
  | succ f ih =>
    intro i hf hi
    obtain ⟨n, h⟩ := get_of_lt hi
    rw [tr_eq W h]
    show (if (Kp365.nodeAt ⟨l⟩ i).kind = 0 then (Kp365.nodeAt ⟨l⟩ i).so == 1 else if (Kp365.nodeAt ⟨l⟩ i).kind = 1 then (Kp365.nodeAt ⟨l⟩ i).kids.all (Kp365.goTrue ⟨l⟩ f) else (Kp365.nodeAt ⟨l⟩ i).kids.any (Kp365.goTrue ⟨l⟩ f)) = _
    rw [nodeAt_eq h]
    have e : ∀ k ∈ n.kids, Kp365.goTrue ⟨l⟩ f k = tr l k := fun k hk => ih k (by have := W.kid h hk; omega) (by have := W.kid h hk; omega)
    rw [all_congr e, any_congr e]
theorem isTrue_eq {l : List Node} (W : WF l) {i : Nat} (hi : i < l.length) : Kp365.isTrue ⟨l⟩ i = tr l i := goTrue_eq W _ i (by have := W.len; show i < 20 + 1; omega) hi
/-! ### 4. Leaves, depth -/
def leavesF (acc : List (List Nat)) (n : Node) : List Nat := if n.kind = 0 then [acc.length] else n.kids.flatMap fun k => acc.getD k []
theorem leavesF_def (acc : List (List Nat)) (n : Node) : leavesF acc n = if n.kind = 0 then [acc.length] else n.kids.flatMap fun k => acc.getD k [] := rfl
def lvT (l : List Node) : List (List Nat) := tab leavesF l
def lv (l : List Node) (i : Nat) : List Nat := (lvT l).getD i []
theorem flatMap_congr {B C : Type} {l : List B} {p q : B → List C} (h : ∀ x ∈ l, p x = q x) : l.flatMap p = l.flatMap q := by
  induction l with
  | nil => rfl
  | cons a r ih =>
    rw [List.flatMap_cons, List.flatMap_cons, h a (List.mem_cons_self ..), ih fun x hx => h x (List.mem_cons_of_mem _ hx)]
theorem lv_eq {l : List Node} (W : WF l) {i : Nat} {n : Node} (h : l[i]? = some n) : lv l i = if n.kind = 0 then [i] else n.kids.flatMap (lv l) := by
  unfold lv lvT
  rw [tab_getD h, leavesF_def, take_len h, flatMap_congr (q := fun k => (tab leavesF l).getD k []) fun k hk => tab_ahead (W.kid h hk)]
theorem goUnder_eq {l : List Node} (W : WF l) : ∀ f i, i < f → i < l.length → Kp365.goUnder ⟨l⟩ f i = lv l i := by
  intro f
  induction f with
  | zero => intro i h; omega
  | succ f ih =>
    intro i hf hi
    obtain ⟨n, h⟩ := get_of_lt hi
    rw [lv_eq W h]
    show (if (Kp365.nodeAt ⟨l⟩ i).kind = 0 then [i] else (Kp365.nodeAt ⟨l⟩ i).kids.flatMap (Kp365.goUnder ⟨l⟩ f)) = _
    rw [nodeAt_eq h]
    have e : ∀ k ∈ n.kids, Kp365.goUnder ⟨l⟩ f k = lv l k := fun k hk => ih k (by have := W.kid h hk; omega) (by have := W.kid h hk; omega)
    rw [flatMap_congr e]
theorem leaves_eq {l : List Node} (W : WF l) {i : Nat} (hi : i < l.length) : Kp365.leaves ⟨l⟩ i = lv l i := goUnder_eq W _ i (by have := W.len; show i < 20 + 1; omega) hi
/-- a leaf's number of a node's leaves is a leaf's, and not behind the node -/
theorem lv_mem {l : List Node} (W : WF l) : ∀ b i j, i < b → i < l.length → j ∈ lv l i → j ≤ i ∧ ∃ m, l[j]? = some m ∧ LeafOk m := by
  intro b
  induction b with
  | zero => intro i j h; omega
  | succ b ih =>
    intro i j hb hi hj
    obtain ⟨n, h⟩ := get_of_lt hi
    rw [lv_eq W h] at hj
    rcases W.node i n h with L | U
    · rw [if_pos L.1, List.mem_singleton] at hj
      subst hj
      exact ⟨Nat.le_refl _, n, h, L⟩
    · rw [if_neg (by rcases U.1 with e | e <;> omega), List.mem_flatMap] at hj
      obtain ⟨k, hk, hj⟩ := hj
      have lk := W.kid h hk
      obtain ⟨q, r⟩ := ih k j (by omega) (by omega) hj
      exact ⟨by omega, r⟩
theorem lv_leaf {l : List Node} (W : WF l) {i j : Nat} (hi : i < l.length) (hj : j ∈ lv l i) : j < l.length ∧ ∃ m, l[j]? = some m ∧ LeafOk m := by
  obtain ⟨q, r⟩ := lv_mem W (i + 1) i j (Nat.lt_succ_self i) hi hj
  exact ⟨by omega, r⟩
def maxL (l : List Nat) : Nat := l.foldl max 0
def depthF (acc : List Nat) (n : Node) : Nat := maxL (0 :: n.kids.map fun k => 1 + acc.getD k 0)
theorem depthF_def (acc : List Nat) (n : Node) : depthF acc n = maxL (0 :: n.kids.map fun k => 1 + acc.getD k 0) := rfl
def dpT (l : List Node) : List Nat := tab depthF l
def dp (l : List Node) (i : Nat) : Nat := (dpT l).getD i 0
theorem foldl_max (l : List Nat) : ∀ a b, l.foldl max (max a b) = max a (l.foldl max b) := by
  induction l with
  | nil => intro a b; rfl
  | cons x r ih =>
    intro a b
    rw [List.foldl_cons, List.foldl_cons, Nat.max_assoc, ih]
theorem maxL_cons (a : Nat) (l : List Nat) : maxL (a :: l) = max a (maxL l) := by
  unfold maxL
  rw [List.foldl_cons, Nat.max_comm 0 a, foldl_max]
theorem maxL_le {l : List Nat} {b : Nat} (h : ∀ x ∈ l, x ≤ b) : maxL l ≤ b := by
  induction l with
  | nil => exact Nat.zero_le _
  | cons a r ih =>
    rw [maxL_cons]
    exact Nat.max_le.mpr ⟨h a (List.mem_cons_self ..), ih fun x hx => h x (List.mem_cons_of_mem _ hx)⟩
theorem le_maxL {l : List Nat} {x : Nat} (h : x ∈ l) : x ≤ maxL l := by
  induction l with
  | nil => cases h
  | cons a r ih =>
    rw [maxL_cons]
    rcases List.mem_cons.mp h with e | e
    · rw [e]
      exact Nat.le_max_left ..
    · exact Nat.le_trans (ih e) (Nat.le_max_right ..)
/-- the greatest is just it -/
theorem maxL_is {l : List Nat} {m : Nat} (h : m ∈ l) (hle : ∀ x ∈ l, x ≤ m) : maxL l = m := Nat.le_antisymm (maxL_le hle) (le_maxL h)
def minL (l : List Nat) : Nat := l.foldl min 100
theorem foldl_min (l : List Nat) : ∀ a b, l.foldl min (min a b) = min a (l.foldl min b) := by
  induction l with
  | nil => intro a b; rfl
  | cons x r ih =>
    intro a b
    rw [List.foldl_cons, List.foldl_cons, Nat.min_assoc, ih]
theorem minL_cons (a : Nat) (l : List Nat) : minL (a :: l) = min a (minL l) := by
  unfold minL
  rw [List.foldl_cons, Nat.min_comm 100 a, foldl_min]
theorem minL_le {l : List Nat} {x : Nat} (h : x ∈ l) : minL l ≤ x := by
  induction l with
  | nil => cases h
  | cons a r ih =>
    rw [minL_cons]
    rcases List.mem_cons.mp h with e | e
    · rw [e]
      exact Nat.min_le_left ..
    · exact Nat.le_trans (Nat.min_le_right ..) (ih e)
theorem le_minL {l : List Nat} {b : Nat} (hb : b ≤ 100) (h : ∀ x ∈ l, b ≤ x) : b ≤ minL l := by
  induction l with
  | nil => exact hb
  | cons a r ih =>
    rw [minL_cons]
    exact Nat.le_min.mpr ⟨h a (List.mem_cons_self ..), ih fun x hx => h x (List.mem_cons_of_mem _ hx)⟩
theorem minL_100 (l : List Nat) : minL l ≤ 100 := by
  induction l with
  | nil => exact Nat.le_refl _
  | cons a r ih =>
    rw [minL_cons]
    exact Nat.le_trans (Nat.min_le_right ..) ih
theorem minL_is {l : List Nat} {m : Nat} (h : m ∈ l) (hm : m ≤ 100) (hle : ∀ x ∈ l, m ≤ x) : minL l = m := Nat.le_antisymm (minL_le h) (le_minL hm hle)
theorem maxL_mem {l : List Nat} (h : l ≠ []) : maxL l ∈ l := by
  induction l with
  | nil => exact absurd rfl h
  | cons a r ih =>
    rw [maxL_cons]
    by_cases hr : r = []
    · subst hr
      show max a 0 ∈ _
      rw [Nat.max_eq_left (Nat.zero_le _)]
      exact List.mem_cons_self ..
    · rcases Nat.le_total a (maxL r) with q | q
      · rw [Nat.max_eq_right q]
        exact List.mem_cons_of_mem _ (ih hr)
      · rw [Nat.max_eq_left q]
        exact List.mem_cons_self ..
theorem minL_mem {l : List Nat} (h : l ≠ []) (hb : ∀ x ∈ l, x ≤ 100) : minL l ∈ l := by
  induction l with
  | nil => exact absurd rfl h
  | cons a r ih =>
    rw [minL_cons]
    by_cases hr : r = []
    · subst hr
      show min a 100 ∈ _
      rw [Nat.min_eq_left (hb a (List.mem_cons_self ..))]
      exact List.mem_cons_self ..
    · rcases Nat.le_total a (minL r) with q | q
      · rw [Nat.min_eq_left q]
        exact List.mem_cons_self ..
      · rw [Nat.min_eq_right q]
        exact List.mem_cons_of_mem _ (ih hr fun x hx => hb x (List.mem_cons_of_mem _ hx))
theorem maxL_succ {B : Type} (g : B → Nat) : ∀ (l : List B), l ≠ [] → maxL (l.map fun k => 1 + g k) = 1 + maxL (l.map g)
  | [], h => absurd rfl h
  | [a], _ => by
    rw [List.map_cons, List.map_cons, maxL_cons, maxL_cons]
    show max (1 + g a) 0 = 1 + max (g a) 0
    omega
  | a :: b :: r, _ => by
    have ih := maxL_succ g (b :: r) (by simp)
    rw [List.map_cons, maxL_cons, ih]
    show max (1 + g a) (1 + maxL ((b :: r).map g)) = 1 + maxL (g a :: (b :: r).map g)
    rw [maxL_cons (g a)]
    omega
theorem dp_eq {l : List Node} (W : WF l) {i : Nat} {n : Node} (h : l[i]? = some n) : dp l i = maxL (0 :: n.kids.map fun k => 1 + dp l k) := by
  unfold dp dpT
  rw [tab_getD h, depthF_def]
  have e : n.kids.map (fun k => 1 + (tab depthF (l.take i)).getD k 0) = n.kids.map (fun k => 1 + (tab depthF l).getD k 0) := List.map_congr_left fun k hk => by rw [tab_ahead (W.kid h hk)]
  rw [e]
theorem depth_go {l : List Node} (W : WF l) : ∀ f i, i < f → i < l.length → Kp365.depth ⟨l⟩ f i = dp l i := by
  intro f
  induction f with
  | zero => intro i h; omega
  | succ f ih =>
    intro i hf hi
    obtain ⟨n, h⟩ := get_of_lt hi
    rw [dp_eq W h]
    show (if (Kp365.nodeAt ⟨l⟩ i).kind = 0 then 0 else 1 + ((Kp365.nodeAt ⟨l⟩ i).kids.map (Kp365.depth ⟨l⟩ f)).foldl max 0) = _
    rw [nodeAt_eq h]
    have e : n.kids.map (Kp365.depth ⟨l⟩ f) = n.kids.map (dp l) := List.map_congr_left fun k hk => ih k (by have := W.kid h hk; omega) (by have := W.kid h hk; omega)
    rw [e]
    rcases W.node i n h with L | U
    · rw [if_pos L.1, L.2.2.2]
      rfl
    · rw [if_neg (by rcases U.1 with e | e <;> omega), maxL_cons, maxL_succ]
      · show 1 + maxL _ = _
        omega
      · intro z
        have := U.2.1
        rw [z] at this
        simp at this
theorem depth_eq {l : List Node} (W : WF l) {i : Nat} (hi : i < l.length) : Kp365.depth ⟨l⟩ (Kp365.NODES + 1) i = dp l i := depth_go W _ i (by have := W.len; show i < 20 + 1; omega) hi
end Dis
end
section
set_option linter.unusedVariables false
namespace Dis
open Kp365 (Node Desk)
open Kp340 (Fr fr)
/-! ### 5. Hundredths as fractions -/
theorem fr_nat (a : Nat) : fr (a : Int) 100 = (((a / Nat.gcd a 100 : Nat) : Int), ((100 / Nat.gcd a 100 : Nat) : Int)) := by
  unfold fr
  have hg : Nat.gcd a 100 ≠ 0 := by
    intro h
    have := Nat.gcd_eq_zero_iff.mp h
    omega
  have e : Nat.gcd (a : Int).natAbs (100 : Int).natAbs = Nat.gcd a 100 := rfl
  simp only [e, if_neg hg]
  rw [if_neg (by omega)]
  rfl
theorem fr_pos (a : Nat) : 0 < (fr (a : Int) 100).2 := by
  rw [fr_nat]
  have hg : 0 < Nat.gcd a 100 := Nat.gcd_pos_of_pos_right _ (by decide)
  have : 0 < 100 / Nat.gcd a 100 := Nat.div_pos (Nat.le_of_dvd (by decide) (Nat.gcd_dvd_right ..)) hg
  show (0 : Int) < ((100 / Nat.gcd a 100 : Nat) : Int)
  omega
/-- a hundredths' fraction's parts: so many times them are a and 100 -/
theorem fr_parts (a : Nat) : ∃ g : Int, 0 < g ∧ (fr (a : Int) 100).1 * g = (a : Int) ∧ (fr (a : Int) 100).2 * g = 100 := by
  refine ⟨(Nat.gcd a 100 : Nat), ?_, ?_, ?_⟩
  · have hg : 0 < Nat.gcd a 100 := Nat.gcd_pos_of_pos_right _ (by decide)
    omega
  · rw [fr_nat]
    show ((a / Nat.gcd a 100 : Nat) : Int) * ((Nat.gcd a 100 : Nat) : Int) = _
    rw [← Int.natCast_mul, Nat.div_mul_cancel (Nat.gcd_dvd_left ..)]
  · rw [fr_nat]
    show ((100 / Nat.gcd a 100 : Nat) : Int) * ((Nat.gcd a 100 : Nat) : Int) = _
    rw [← Int.natCast_mul, Nat.div_mul_cancel (Nat.gcd_dvd_right ..)]
    rfl
theorem ltF_fr (a b : Nat) : Kp346.ltF (fr (a : Int) 100) (fr (b : Int) 100) = decide (a < b) := by
  obtain ⟨g, hg, a1, a2⟩ := fr_parts a
  obtain ⟨k, hk, b1, b2⟩ := fr_parts b
  unfold Kp346.ltF
  refine decide_eq_decide.mpr ?_
  have sw : ∀ p q g k : Int, p * q * (g * k) = (p * g) * (q * k) := fun p q g k => by ac_rfl
  have e1 : (fr (a : Int) 100).1 * (fr (b : Int) 100).2 * (g * k) = (a : Int) * 100 := by
    rw [sw, a1, b2]
  have e2 : (fr (b : Int) 100).1 * (fr (a : Int) 100).2 * (g * k) = (b : Int) * 100 := by
    rw [Int.mul_comm g k, sw, b1, a2]
  have gk : 0 < g * k := Int.mul_pos hg hk
  constructor
  · intro h
    have := Int.mul_lt_mul_of_pos_right h gk
    rw [e1, e2] at this
    omega
  · intro h
    refine Int.lt_of_mul_lt_mul_right (a := g * k) ?_ (Int.le_of_lt gk)
    rw [e1, e2]
    omega
theorem fr_zero : fr ((0 : Nat) : Int) 100 = (0, 1) := by decide +kernel
theorem fr_whole : fr ((100 : Nat) : Int) 100 = (1, 1) := by decide +kernel
theorem sub_all : ∀ a : Fin 101, Kp346.sub (1, 1) (fr ((a.val : Nat) : Int) 100) = fr ((100 - a.val : Nat) : Int) 100 := by decide +kernel
theorem sub_fr {a : Nat} (h : a ≤ 100) : Kp346.sub (1, 1) (fr (a : Int) 100) = fr ((100 - a : Nat) : Int) 100 := sub_all ⟨a, by omega⟩
theorem fold_min (l : List Nat) : ∀ a : Nat, (l.map fun h => fr (h : Nat) 100).foldl (fun (a b : Fr) => if Kp346.ltF b a then b else a) (fr (a : Nat) 100) = fr ((l.foldl min a : Nat) : Int) 100 := by
  induction l with
  | nil => intro a; rfl
  | cons x r ih =>
    intro a
    rw [List.map_cons, List.foldl_cons, List.foldl_cons, ltF_fr]
    by_cases h : x < a
    · rw [decide_eq_true h, if_pos rfl, ih, Nat.min_eq_right (Nat.le_of_lt h)]
    · rw [decide_eq_false h, if_neg Bool.false_ne_true, ih, Nat.min_eq_left (by omega)]
theorem fold_max (l : List Nat) : ∀ a : Nat, (l.map fun h => fr (h : Nat) 100).foldl Kp346.maxF (fr (a : Nat) 100) = fr ((l.foldl max a : Nat) : Int) 100 := by
  induction l with
  | nil => intro a; rfl
  | cons x r ih =>
    intro a
    rw [List.map_cons, List.foldl_cons, List.foldl_cons]
    unfold Kp346.maxF
    rw [ltF_fr]
    by_cases h : a < x
    · rw [decide_eq_true h, if_pos rfl]
      have := ih x
      unfold Kp346.maxF at this
      rw [this, Nat.max_eq_right (Nat.le_of_lt h)]
    · rw [decide_eq_false h, if_neg Bool.false_ne_true]
      have := ih a
      unfold Kp346.maxF at this
      rw [this, Nat.max_eq_left (by omega)]
theorem fold_min1 (l : List Nat) : (l.map fun h => fr (h : Nat) 100).foldl (fun (a b : Fr) => if Kp346.ltF b a then b else a) (1, 1) = fr ((minL l : Nat) : Int) 100 := by
  rw [← fr_whole]
  exact fold_min l 100
theorem fold_max1 (l : List Nat) : (l.map fun h => fr (h : Nat) 100).foldl Kp346.maxF (0, 1) = fr ((maxL l : Nat) : Int) 100 := by
  rw [← fr_zero]
  exact fold_max l 0
/-- the program's fraction of so many hundredths -/
def frac (h : Nat) : List Int := [((h / Nat.gcd 100 h : Nat) : Int), ((100 / Nat.gcd 100 h : Nat) : Int)]
theorem frac_eq (h : Nat) : [(fr (h : Nat) 100).1, (fr (h : Nat) 100).2] = frac h := by
  rw [fr_nat, frac, Nat.gcd_comm 100 h]
/-! ### 6. How often it is held -/
def readSo (n : Node) : Nat := if n.so = 1 then 100 - n.wrong else n.wrong
def heldF (acc : List Nat) (n : Node) : Nat := if n.kind = 0 then readSo n else if n.kind = 1 then minL (n.kids.map fun k => acc.getD k 0) else maxL (n.kids.map fun k => acc.getD k 0)
theorem heldF_def (acc : List Nat) (n : Node) : heldF acc n = if n.kind = 0 then readSo n else if n.kind = 1 then minL (n.kids.map fun k => acc.getD k 0) else maxL (n.kids.map fun k => acc.getD k 0) := rfl
def hdT (l : List Node) : List Nat := tab heldF l
def hd (l : List Node) (i : Nat) : Nat := (hdT l).getD i 0
theorem hd_eq {l : List Node} (W : WF l) {i : Nat} {n : Node} (h : l[i]? = some n) : hd l i = if n.kind = 0 then readSo n else if n.kind = 1 then minL (n.kids.map (hd l)) else maxL (n.kids.map (hd l)) := by
  unfold hd hdT
  rw [tab_getD h, heldF_def, map_kids W h]
theorem hd_100 {l : List Node} (W : WF l) : ∀ b i, i < b → i < l.length → hd l i ≤ 100 := by
  intro b
  induction b with
  | zero => intro i h; omega
  | succ b ih =>
    intro i hb hi
    obtain ⟨n, h⟩ := get_of_lt hi
    rw [hd_eq W h]
    rcases W.node i n h with L | U
    · rw [if_pos L.1]
      unfold readSo
      have := L.2.2.1
      split <;> omega
    · rw [if_neg (by rcases U.1 with e | e <;> omega)]
      split
      · exact minL_100 _
      · refine maxL_le fun x hx => ?_
        obtain ⟨k, hk, rfl⟩ := List.mem_map.mp hx
        have := W.kid h hk
        exact ih k (by omega) (by omega)
theorem hd_le {l : List Node} (W : WF l) {i : Nat} (hi : i < l.length) : hd l i ≤ 100 := hd_100 W (i + 1) i (Nat.lt_succ_self i) hi
theorem goHeld_eq {l : List Node} (W : WF l) : ∀ f i, i < f → i < l.length → Kp365.goHeld ⟨l⟩ f i = fr ((hd l i : Nat) : Int) 100 := by
  intro f
  induction f with
  | zero => intro i h; omega
  | succ f ih =>
    intro i hf hi
    obtain ⟨n, h⟩ := get_of_lt hi
    rw [hd_eq W h]
    show (if (Kp365.nodeAt ⟨l⟩ i).kind = 0 then (if (Kp365.nodeAt ⟨l⟩ i).so = 1 then fr ((100 - (Kp365.nodeAt ⟨l⟩ i).wrong : Nat) : Int) 100 else fr ((Kp365.nodeAt ⟨l⟩ i).wrong : Nat) 100) else
      if (Kp365.nodeAt ⟨l⟩ i).kind = 1 then ((Kp365.nodeAt ⟨l⟩ i).kids.map (Kp365.goHeld ⟨l⟩ f)).foldl (fun (a b : Fr) => if Kp346.ltF b a then b else a) (1, 1) else ((Kp365.nodeAt ⟨l⟩ i).kids.map (Kp365.goHeld ⟨l⟩ f)).foldl Kp346.maxF (0, 1)) = _
    rw [nodeAt_eq h]
    have e : n.kids.map (Kp365.goHeld ⟨l⟩ f) = (n.kids.map (hd l)).map fun h => fr (h : Nat) 100 := by
      rw [List.map_map]
      exact List.map_congr_left fun k hk => ih k (by have := W.kid h hk; omega) (by have := W.kid h hk; omega)
    rw [e, fold_min1, fold_max1]
    unfold readSo
    split
    · split <;> rfl
    · split <;> rfl
theorem held_eq {l : List Node} (W : WF l) {i : Nat} (hi : i < l.length) : Kp365.held ⟨l⟩ i = fr ((hd l i : Nat) : Int) 100 := goHeld_eq W _ i (by have := W.len; show i < 20 + 1; omega) hi
/-- how often who is right wins, in hundredths -/
def rw_ (l : List Node) (i : Nat) : Nat := if tr l i then hd l i else 100 - hd l i
theorem right_eq {l : List Node} (W : WF l) {i : Nat} (hi : i < l.length) : Kp365.right ⟨l⟩ i = fr ((rw_ l i : Nat) : Int) 100 := by
  unfold Kp365.right rw_
  rw [isTrue_eq W hi, held_eq W hi]
  split
  · rfl
  · exact sub_fr (hd_le W hi)
theorem rw_le {l : List Node} (W : WF l) {i : Nat} (hi : i < l.length) : rw_ l i ≤ 100 := by
  have := hd_le W hi
  unfold rw_
  split <;> omega
/-- by told picks -/
def heldByF (told : Nat) (ps : List Nat) (acc : List Nat) (n : Node) : Nat := if n.kind = 0 then readSo n else if n.kind = told then (n.kids.map fun k => acc.getD k 0).getD (ps.getD acc.length 0) 0 else
  if n.kind = 1 then minL (n.kids.map fun k => acc.getD k 0) else maxL (n.kids.map fun k => acc.getD k 0)
theorem heldByF_def (told : Nat) (ps : List Nat) (acc : List Nat) (n : Node) : heldByF told ps acc n = if n.kind = 0 then readSo n else if n.kind = told then (n.kids.map fun k => acc.getD k 0).getD (ps.getD acc.length 0) 0 else
  if n.kind = 1 then minL (n.kids.map fun k => acc.getD k 0) else maxL (n.kids.map fun k => acc.getD k 0) := rfl
def hbT (told : Nat) (ps : List Nat) (l : List Node) : List Nat := tab (heldByF told ps) l
def hb (told : Nat) (ps : List Nat) (l : List Node) (i : Nat) : Nat := (hbT told ps l).getD i 0
theorem hb_eq {told : Nat} {ps : List Nat} {l : List Node} (W : WF l) {i : Nat} {n : Node} (h : l[i]? = some n) : hb told ps l i = if n.kind = 0 then readSo n else if n.kind = told then (n.kids.map (hb told ps l)).getD (ps.getD i 0) 0 else
  if n.kind = 1 then minL (n.kids.map (hb told ps l)) else maxL (n.kids.map (hb told ps l)) := by
  unfold hb hbT
  rw [tab_getD h, heldByF_def, map_kids W h, take_len h]
/-- picks as they are due: what the program asks of each -/
def pickOk (told : Nat) (n : Node) (p : Nat) : Bool := if n.kind = told then decide (p < n.kids.length) else p == 0
def arePicks (told : Nat) (l : List Node) (ps : List Nat) : Bool := if ps.length ≠ l.length then false else (List.zipWith (pickOk told) l ps).all id
theorem arePicks_iff {told : Nat} {l : List Node} {ps : List Nat} : arePicks told l ps = true ↔ ps.length = l.length ∧ ∀ i n, l[i]? = some n → pickOk told n (ps.getD i 0) = true := by
  unfold arePicks
  by_cases h : ps.length = l.length
  · rw [if_neg (by omega)]
    constructor
    · intro a
      refine ⟨h, fun i n hn => ?_⟩
      rw [List.all_eq_true] at a
      have hi := lt_of_get hn
      have hp : ps[i]? = some (ps.getD i 0) := by
        rw [List.getD_eq_getElem?_getD, List.getElem?_eq_getElem (by omega)]
        rfl
      have e : (List.zipWith (pickOk told) l ps)[i]? = some (pickOk told n (ps.getD i 0)) := by
        rw [List.getElem?_zipWith, hn, hp]
      exact a _ (List.mem_of_getElem? e)
    · rintro ⟨_, a⟩
      rw [List.all_eq_true]
      intro b hb
      obtain ⟨i, hi⟩ := List.getElem?_of_mem hb
      have hl : i < l.length := by
        have := lt_of_get hi
        rw [List.length_zipWith] at this
        omega
      obtain ⟨n, hn⟩ := get_of_lt hl
      have hp : ps[i]? = some (ps.getD i 0) := by
        rw [List.getD_eq_getElem?_getD, List.getElem?_eq_getElem (by omega)]
        rfl
      rw [List.getElem?_zipWith, hn, hp] at hi
      cases hi
      exact a i n hn
  · rw [if_pos h]
    constructor
    · intro z; cases z
    · intro z; exact absurd z.1 h
theorem okPicks_eq {told : Nat} {l : List Node} {ps : List Nat} : Kp365.okPicks ⟨l⟩ told ps = arePicks told l ps := by
  have key : Kp365.okPicks ⟨l⟩ told ps = true ↔ arePicks told l ps = true := by
    rw [arePicks_iff]
    unfold Kp365.okPicks
    rw [Bool.and_eq_true, decide_eq_true_iff, List.all_eq_true]
    show (ps.length = l.length ∧ _) ↔ _
    constructor
    · rintro ⟨h, a⟩
      refine ⟨h, fun i n hn => ?_⟩
      have := a i (List.mem_range.mpr (by have := lt_of_get hn; omega))
      rw [nodeAt_eq hn] at this
      unfold pickOk
      exact this
    · rintro ⟨h, a⟩
      refine ⟨h, fun i hi => ?_⟩
      obtain ⟨n, hn⟩ := get_of_lt (l := l) (by rw [← h]; exact List.mem_range.mp hi)
      rw [nodeAt_eq hn]
      exact a i n hn
  cases e : arePicks told l ps with
  | true => exact key.mpr e
  | false =>
    cases e2 : Kp365.okPicks ⟨l⟩ told ps with
    | false => rfl
    | true =>
      rw [key.mp e2] at e
      cases e
theorem goBy_eq {told : Nat} {ps : List Nat} {l : List Node} (W : WF l) (ht : told ≠ 0) (P : arePicks told l ps = true) : ∀ f i, i < f → i < l.length → Kp365.goBy ⟨l⟩ told ps f i = fr ((hb told ps l i : Nat) : Int) 100 := by
  intro f
  induction f with
  | zero => intro i h; omega
  | succ f ih =>
    intro i hf hi
    obtain ⟨n, h⟩ := get_of_lt hi
    rw [hb_eq W h]
    show (if (Kp365.nodeAt ⟨l⟩ i).kind = 0 then Kp365.held ⟨l⟩ i else
      if (Kp365.nodeAt ⟨l⟩ i).kind = told then ((Kp365.nodeAt ⟨l⟩ i).kids.map (Kp365.goBy ⟨l⟩ told ps f)).getD (ps.getD i 0) (((Kp365.nodeAt ⟨l⟩ i).kids.map (Kp365.goBy ⟨l⟩ told ps f)).headD (0, 1)) else
      if (Kp365.nodeAt ⟨l⟩ i).kind = 1 then ((Kp365.nodeAt ⟨l⟩ i).kids.map (Kp365.goBy ⟨l⟩ told ps f)).foldl (fun (a b : Fr) => if Kp346.ltF b a then b else a) (1, 1) else ((Kp365.nodeAt ⟨l⟩ i).kids.map (Kp365.goBy ⟨l⟩ told ps f)).foldl Kp346.maxF (0, 1)) = _
    rw [nodeAt_eq h]
    have e : n.kids.map (Kp365.goBy ⟨l⟩ told ps f) = (n.kids.map (hb told ps l)).map fun h => fr (h : Nat) 100 := by
      rw [List.map_map]
      exact List.map_congr_left fun k hk => ih k (by have := W.kid h hk; omega) (by have := W.kid h hk; omega)
    rw [e, fold_min1, fold_max1]
    by_cases c : n.kind = 0
    · rw [if_pos c, if_pos c, held_eq W hi, hd_eq W h, if_pos c]
    · rw [if_neg c, if_neg c]
      by_cases c1 : n.kind = told
      · rw [if_pos c1, if_pos c1]
        have hp := (arePicks_iff.mp P).2 i n h
        unfold pickOk at hp
        rw [if_pos c1] at hp
        have hp' : ps.getD i 0 < n.kids.length := of_decide_eq_true hp
        have e3 : (n.kids.map (hb told ps l))[ps.getD i 0]? = some (hb told ps l (n.kids[ps.getD i 0])) := by
          rw [List.getElem?_map, List.getElem?_eq_getElem hp']
          rfl
        obtain ⟨v, e4⟩ : ∃ v, (n.kids.map (hb told ps l))[ps.getD i 0]? = some v := ⟨_, e3⟩
        generalize ps.getD i 0 = p at e4
        rw [List.getD_eq_getElem?_getD, List.getElem?_map, e4, List.getD_eq_getElem?_getD, e4]
        rfl
      · rw [if_neg c1, if_neg c1]
        split <;> rfl
theorem by_eq {told : Nat} {ps : List Nat} {l : List Node} (W : WF l) (ht : told ≠ 0) (P : arePicks told l ps = true) {i : Nat} (hi : i < l.length) : Kp365.by_ ⟨l⟩ told ps i = fr ((hb told ps l i : Nat) : Int) 100 :=
  goBy_eq W ht P _ i (by have := W.len; show i < 20 + 1; omega) hi
/-! ### 7. What is picked, the way -/
def pk (l : List Node) (i : Nat) (n : Node) : Nat := (n.kids.find? fun c => hd l c == hd l i).getD i
/-- the first of the least -/
theorem first_least (g : Nat → Int) : ∀ (r : List Nat) (k : Nat), ∃ m : Int, (∀ x ∈ k :: r, m ≤ g x) ∧
    (k :: r).find? (fun c => decide (g c = m)) = some (r.foldl (fun b c => if g c < g b then c else b) k) := by
  intro r
  induction r with
  | nil =>
    intro k
    refine ⟨g k, fun x hx => ?_, ?_⟩
    · rw [List.mem_singleton] at hx
      rw [hx]
      exact Int.le_refl _
    · rw [List.find?_cons, decide_eq_true rfl]
      rfl
  | cons c r ih =>
    intro k
    rw [List.foldl_cons]
    by_cases h : g c < g k
    · rw [if_pos h]
      obtain ⟨m, a, b⟩ := ih c
      have hc := a c (List.mem_cons_self ..)
      refine ⟨m, fun x hx => ?_, ?_⟩
      · rcases List.mem_cons.mp hx with e | e
        · rw [e]
          omega
        · exact a x e
      · rw [List.find?_cons, decide_eq_false (by omega)]
        exact b
    · rw [if_neg h]
      obtain ⟨m, a, b⟩ := ih k
      have hk := a k (List.mem_cons_self ..)
      refine ⟨m, fun x hx => ?_, ?_⟩
      · rcases List.mem_cons.mp hx with e | e
        · rw [e]
          exact hk
        · rcases List.mem_cons.mp e with e | e
          · rw [e]
            omega
          · exact a x (List.mem_cons_of_mem _ e)
      · rw [List.find?_cons] at b ⊢
        by_cases hm : g k = m
        · rw [decide_eq_true hm] at b ⊢
          exact b
        · rw [decide_eq_false hm] at b ⊢
          rw [List.find?_cons, decide_eq_false (by omega)]
          exact b
theorem fold_some {B : Type} (p : B → B → Bool) : ∀ (r : List B) (k : B), r.foldl (fun (b : Option B) (c : B) => match b with
    | none => some c
    | some k => if p c k then some c else b) (some k) = some (r.foldl (fun b c => if p c b then c else b) k) := by
  intro r
  induction r with
  | nil => intro k; rfl
  | cons c r ih =>
    intro k
    rw [List.foldl_cons, List.foldl_cons]
    show r.foldl _ (if p c k then some c else some k) = _
    cases p c k
    · exact ih k
    · exact ih c
theorem find_congr {B : Type} {p q : B → Bool} {l : List B} (h : ∀ x ∈ l, p x = q x) : l.find? p = l.find? q := by
  induction l with
  | nil => rfl
  | cons a r ih =>
    rw [List.find?_cons, List.find?_cons, h a (List.mem_cons_self ..), ih fun x hx => h x (List.mem_cons_of_mem _ hx)]
theorem pick_up {l : List Node} (W : WF l) {i : Nat} {n : Node} (h : l[i]? = some n) (U : UpOk i n) : Kp365.pick ⟨l⟩ i = some (pk l i n) ∧ pk l i n ∈ n.kids := by
  obtain ⟨k, r, er⟩ : ∃ k r, n.kids = k :: r := by
    cases e : n.kids with
    | nil =>
      have := U.2.1
      rw [e] at this
      simp at this
    | cons k r => exact ⟨k, r, rfl⟩
  have c0 : ¬ n.kind = 0 := by rcases U.1 with e | e <;> omega
  have hk : ∀ c ∈ n.kids, c < l.length := fun c hc => by
    have := W.kid h hc
    have := lt_of_get h
    omega
  have e : Kp365.pick ⟨l⟩ i = n.kids.foldl (fun (b : Option Nat) (c : Nat) => match b with
    | none => some c
    | some k => if n.kind = 1 then (if Kp346.ltF (Kp365.held ⟨l⟩ c) (Kp365.held ⟨l⟩ k) then some c else b) else (if Kp346.ltF (Kp365.held ⟨l⟩ k) (Kp365.held ⟨l⟩ c) then some c else b)) none := by
    unfold Kp365.pick
    rw [nodeAt_eq h]
    exact if_neg c0
  -- which is best, as a whole number
  let g : Nat → Int := fun c => if n.kind = 1 then (hd l c : Int) else - (hd l c : Int)
  have lt : ∀ c ∈ n.kids, ∀ b ∈ n.kids, (if n.kind = 1 then Kp346.ltF (Kp365.held ⟨l⟩ c) (Kp365.held ⟨l⟩ b) else Kp346.ltF (Kp365.held ⟨l⟩ b) (Kp365.held ⟨l⟩ c)) = decide (g c < g b) := by
    intro c hc b hb
    rw [held_eq W (hk c hc), held_eq W (hk b hb), ltF_fr, ltF_fr]
    show _ = decide ((if n.kind = 1 then (hd l c : Int) else - (hd l c : Int)) < (if n.kind = 1 then (hd l b : Int) else - (hd l b : Int)))
    split
    · exact decide_eq_decide.mpr (by omega)
    · exact decide_eq_decide.mpr (by omega)
  have fold : ∀ (r : List Nat) (k : Nat), k ∈ n.kids → (∀ c ∈ r, c ∈ n.kids) → r.foldl (fun (b : Option Nat) (c : Nat) => match b with
    | none => some c
    | some k => if n.kind = 1 then (if Kp346.ltF (Kp365.held ⟨l⟩ c) (Kp365.held ⟨l⟩ k) then some c else b) else (if Kp346.ltF (Kp365.held ⟨l⟩ k) (Kp365.held ⟨l⟩ c) then some c else b)) (some k) =
      some (r.foldl (fun b c => if g c < g b then c else b) k) := by
    intro r
    induction r with
    | nil => intro k _ _; rfl
    | cons c r ih =>
      intro k hk hr
      have hc := hr c (List.mem_cons_self ..)
      have q := lt c hc k hk
      rw [List.foldl_cons, List.foldl_cons]
      have e2 : (match (some k : Option Nat) with
        | none => some c
        | some k' => if n.kind = 1 then (if Kp346.ltF (Kp365.held ⟨l⟩ c) (Kp365.held ⟨l⟩ k') then some c else some k) else (if Kp346.ltF (Kp365.held ⟨l⟩ k') (Kp365.held ⟨l⟩ c) then some c else some k)) = some (if g c < g k then c else k) := by
        show (if n.kind = 1 then (if Kp346.ltF (Kp365.held ⟨l⟩ c) (Kp365.held ⟨l⟩ k) then some c else some k) else (if Kp346.ltF (Kp365.held ⟨l⟩ k) (Kp365.held ⟨l⟩ c) then some c else some k)) = _
        by_cases c1 : n.kind = 1
        · rw [if_pos c1] at q ⊢
          rw [q]
          by_cases c2 : g c < g k
          · rw [decide_eq_true c2, if_pos rfl, if_pos c2]
          · rw [decide_eq_false c2, if_neg Bool.false_ne_true, if_neg c2]
        · rw [if_neg c1] at q ⊢
          rw [q]
          by_cases c2 : g c < g k
          · rw [decide_eq_true c2, if_pos rfl, if_pos c2]
          · rw [decide_eq_false c2, if_neg Bool.false_ne_true, if_neg c2]
      rw [e2]
      refine ih _ ?_ fun c hc => hr c (List.mem_cons_of_mem _ hc)
      split
      · exact hc
      · exact hk
  obtain ⟨m, a, b⟩ := first_least g r k
  have hm : m = g i := by
    obtain ⟨c, hc, hcm⟩ : ∃ c, c ∈ n.kids ∧ g c = m := by
      have := List.find?_some b
      exact ⟨_, by rw [er]; exact List.mem_of_find?_eq_some b, of_decide_eq_true this⟩
    rw [← er] at a
    show m = if n.kind = 1 then (hd l i : Int) else - (hd l i : Int)
    rw [hd_eq W h, if_neg c0]
    by_cases c1 : n.kind = 1
    · rw [if_pos c1, if_pos c1]
      have ge : ∀ x, g x = (hd l x : Int) := fun x => if_pos c1
      rw [minL_is (m := hd l c) (List.mem_map.mpr ⟨c, hc, rfl⟩) (hd_le W (hk c hc)) fun x hx => ?_, ← hcm, ge]
      obtain ⟨y, hy, rfl⟩ := List.mem_map.mp hx
      have := a y hy
      rw [← hcm, ge, ge] at this
      omega
    · rw [if_neg c1, if_neg c1]
      have ge : ∀ x, g x = - (hd l x : Int) := fun x => if_neg c1
      rw [maxL_is (m := hd l c) (List.mem_map.mpr ⟨c, hc, rfl⟩) fun x hx => ?_, ← hcm, ge]
      obtain ⟨y, hy, rfl⟩ := List.mem_map.mp hx
      have := a y hy
      rw [← hcm, ge, ge] at this
      omega
  have same : n.kids.find? (fun c => hd l c == hd l i) = some (r.foldl (fun b c => if g c < g b then c else b) k) := by
    rw [er, ← b]
    refine find_congr fun x _ => ?_
    have ge : ∀ x, g x = if n.kind = 1 then (hd l x : Int) else - (hd l x : Int) := fun _ => rfl
    rw [hm, ge, ge]
    show decide (hd l x = hd l i) = _
    refine decide_eq_decide.mpr ?_
    split <;> omega
  have pe : pk l i n = r.foldl (fun b c => if g c < g b then c else b) k := by
    unfold pk
    rw [same]
    rfl
  refine ⟨?_, ?_⟩
  · rw [e, pe, er, List.foldl_cons]
    exact fold r k (by rw [er]; exact List.mem_cons_self ..) fun c hc => by
      rw [er]
      exact List.mem_cons_of_mem _ hc
  · rw [pe]
    exact List.mem_of_find?_eq_some same
theorem pick_leaf {l : List Node} {i : Nat} {n : Node} (h : l[i]? = some n) (L : n.kind = 0) : Kp365.pick ⟨l⟩ i = none := by
  unfold Kp365.pick
  rw [nodeAt_eq h]
  exact if_pos L
theorem way_leaf {l : List Node} {i f : Nat} {n : Node} (h : l[i]? = some n) (L : n.kind = 0) : Kp365.way ⟨l⟩ (f + 1) i = [i] := by
  show (match Kp365.pick ⟨l⟩ i with
    | none => [i]
    | some k => i :: Kp365.way ⟨l⟩ f k) = _
  rw [pick_leaf h L]
theorem way_up {l : List Node} (W : WF l) {i f : Nat} {n : Node} (h : l[i]? = some n) (U : UpOk i n) : Kp365.way ⟨l⟩ (f + 1) i = i :: Kp365.way ⟨l⟩ f (pk l i n) := by
  show (match Kp365.pick ⟨l⟩ i with
    | none => [i]
    | some k => i :: Kp365.way ⟨l⟩ f k) = _
  rw [(pick_up W h U).1]
theorem way_len {l : List Node} (W : WF l) : ∀ f i, i < l.length → (Kp365.way ⟨l⟩ f i).length ≤ f := by
  intro f
  induction f with
  | zero => intro i _; exact Nat.le_refl _
  | succ f ih =>
    intro i hi
    obtain ⟨n, h⟩ := get_of_lt hi
    rcases W.node i n h with L | U
    · rw [way_leaf h L.1]
      show 1 ≤ f + 1
      omega
    · rw [way_up W h U, List.length_cons]
      have := W.kid h (pick_up W h U).2
      have := ih (pk l i n) (by omega)
      omega
end Dis
end
section
set_option linter.unusedVariables false
namespace Dis
open Kp365 (Node Desk)
open Kp340 (Fr fr)
/-! ### 8. The proof of a node -/
/-- the first of the shortest -/
def shortest (rows : List (List Nat)) : List Nat := rows.foldl (fun b r => if r.length < b.length then r else b) (rows.headD [])
def proofF (T : List Bool) (acc : List (List Nat)) (n : Node) : List Nat := if n.kind = 0 then [acc.length] else
  if T.getD acc.length false = decide (n.kind = 1) then n.kids.flatMap fun k => acc.getD k [] else
  shortest ((n.kids.filter fun k => T.getD k false == T.getD acc.length false).map fun k => acc.getD k [])
theorem proofF_def (T : List Bool) (acc : List (List Nat)) (n : Node) : proofF T acc n = if n.kind = 0 then [acc.length] else
  if T.getD acc.length false = decide (n.kind = 1) then n.kids.flatMap fun k => acc.getD k [] else
  shortest ((n.kids.filter fun k => T.getD k false == T.getD acc.length false).map fun k => acc.getD k []) := rfl
def prT (l : List Node) : List (List Nat) := tab (proofF (truths l)) l
def pr (l : List Node) (i : Nat) : List Nat := (prT l).getD i []
theorem pr_eq {l : List Node} (W : WF l) {i : Nat} {n : Node} (h : l[i]? = some n) : pr l i = if n.kind = 0 then [i] else
    if tr l i = decide (n.kind = 1) then n.kids.flatMap (pr l) else shortest ((n.kids.filter fun k => tr l k == tr l i).map (pr l)) := by
  unfold pr prT
  rw [tab_getD h, proofF_def, take_len h, flatMap_congr (q := fun k => (tab (proofF (truths l)) l).getD k []) fun k hk => tab_ahead (W.kid h hk)]
  have e : (n.kids.filter fun k => (truths l).getD k false == (truths l).getD i false).map (fun k => (tab (proofF (truths l)) (l.take i)).getD k []) = (n.kids.filter fun k => (truths l).getD k false == (truths l).getD i false).map (fun k => (tab (proofF (truths l)) l).getD k []) :=
    List.map_congr_left fun k hk => tab_ahead (W.kid h (List.mem_filter.mp hk).1)
  rw [e]
  rfl
theorem bind_all {l : List Node} {w : Bool} : ∀ (ks : List Nat) (x : List Nat), (∀ k ∈ ks, tr l k = w) →
    (ks.map fun k => if tr l k = w then some (pr l k) else none).foldl (fun (a b : Option (List Nat)) => a.bind fun x => b.map fun y => x ++ y) (some x) = some (x ++ ks.flatMap (pr l)) := by
  intro ks
  induction ks with
  | nil => intro x _; simp
  | cons k r ih =>
    intro x h
    rw [List.map_cons, List.foldl_cons, if_pos (h k (List.mem_cons_self ..))]
    show (r.map _).foldl _ (some (x ++ pr l k)) = _
    rw [ih _ fun k hk => h k (List.mem_cons_of_mem _ hk), List.flatMap_cons, List.append_assoc]
theorem bind_none (ps : List (Option (List Nat))) : ps.foldl (fun (a b : Option (List Nat)) => a.bind fun x => b.map fun y => x ++ y) none = none := by
  induction ps with
  | nil => rfl
  | cons p r ih => rw [List.foldl_cons]; exact ih
theorem bind_some {l : List Node} {w : Bool} : ∀ (ks : List Nat) (x : List Nat), (∃ k ∈ ks, tr l k ≠ w) →
    (ks.map fun k => if tr l k = w then some (pr l k) else none).foldl (fun (a b : Option (List Nat)) => a.bind fun x => b.map fun y => x ++ y) (some x) = none := by
  intro ks
  induction ks with
  | nil =>
    rintro x ⟨k, hk, _⟩
    cases hk
  | cons k r ih =>
    rintro x ⟨j, hj, ne⟩
    rw [List.map_cons, List.foldl_cons]
    by_cases c : tr l k = w
    · rw [if_pos c]
      rcases List.mem_cons.mp hj with e | e
      · rw [e] at ne
        exact absurd c ne
      · exact ih _ ⟨j, e, ne⟩
    · rw [if_neg c]
      exact bind_none _
theorem short_go {l : List Node} {w : Bool} : ∀ (ks : List Nat) (x : List Nat),
    (ks.map fun k => if tr l k = w then some (pr l k) else none).foldl (fun (a b : Option (List Nat)) => match a, b with
      | none, y => y
      | x, none => x
      | some x, some y => if y.length < x.length then some y else some x) (some x) = some (((ks.filter fun k => tr l k == w).map (pr l)).foldl (fun b r => if r.length < b.length then r else b) x) := by
  intro ks
  induction ks with
  | nil => intro x; rfl
  | cons k r ih =>
    intro x
    rw [List.map_cons, List.foldl_cons]
    by_cases c : tr l k = w
    · rw [if_pos c, List.filter_cons_of_pos (by rw [c]; exact beq_self_eq_true w), List.map_cons, List.foldl_cons]
      show (r.map _).foldl _ (if (pr l k).length < x.length then some (pr l k) else some x) = _
      split
      · exact ih _
      · exact ih _
    · rw [if_neg c, List.filter_cons_of_neg (by intro z; exact c (eq_of_beq z))]
      exact ih x
theorem short_all {l : List Node} {w : Bool} : ∀ (ks : List Nat), (∃ k ∈ ks, tr l k = w) →
    (ks.map fun k => if tr l k = w then some (pr l k) else none).foldl (fun (a b : Option (List Nat)) => match a, b with
      | none, y => y
      | x, none => x
      | some x, some y => if y.length < x.length then some y else some x) none = some (shortest ((ks.filter fun k => tr l k == w).map (pr l))) := by
  intro ks
  induction ks with
  | nil =>
    rintro ⟨k, hk, _⟩
    cases hk
  | cons k r ih =>
    rintro ⟨j, hj, e⟩
    rw [List.map_cons, List.foldl_cons]
    by_cases c : tr l k = w
    · rw [if_pos c, List.filter_cons_of_pos (by rw [c]; exact beq_self_eq_true w), List.map_cons]
      show (r.map _).foldl _ (some (pr l k)) = _
      rw [short_go r (pr l k)]
      unfold shortest
      rw [List.foldl_cons]
      show _ = some (List.foldl _ (if (pr l k).length < (pr l k).length then pr l k else pr l k) _)
      rw [if_neg (Nat.lt_irrefl _)]
    · rw [if_neg c, List.filter_cons_of_neg (by intro z; exact c (eq_of_beq z))]
      refine ih ⟨j, ?_, e⟩
      rcases List.mem_cons.mp hj with q | q
      · rw [q] at e
        exact absurd e c
      · exact q
theorem short_none {l : List Node} {w : Bool} : ∀ (ks : List Nat), (∀ k ∈ ks, tr l k ≠ w) →
    (ks.map fun k => if tr l k = w then some (pr l k) else none).foldl (fun (a b : Option (List Nat)) => match a, b with
      | none, y => y
      | x, none => x
      | some x, some y => if y.length < x.length then some y else some x) none = none := by
  intro ks
  induction ks with
  | nil => intro _; rfl
  | cons k r ih =>
    intro h
    rw [List.map_cons, List.foldl_cons, if_neg (h k (List.mem_cons_self ..))]
    exact ih fun k hk => h k (List.mem_cons_of_mem _ hk)
theorem goProof_eq {l : List Node} (W : WF l) (w : Bool) : ∀ f i, i < f → i < l.length → Kp365.goProof ⟨l⟩ w f i = if tr l i = w then some (pr l i) else none := by
  intro f
  induction f with
  | zero => intro i h; omega
  | succ f ih =>
    intro i hf hi
    obtain ⟨n, h⟩ := get_of_lt hi
    show (if (Kp365.nodeAt ⟨l⟩ i).kind = 0 then (if ((Kp365.nodeAt ⟨l⟩ i).so == 1) == w then some [i] else none) else
      if ((Kp365.nodeAt ⟨l⟩ i).kind = 1) = (w = true) then ((Kp365.nodeAt ⟨l⟩ i).kids.map (Kp365.goProof ⟨l⟩ w f)).foldl (fun (a : Option (List Nat)) (b : Option (List Nat)) => a.bind fun x => b.map fun y => x ++ y) (some []) else
      ((Kp365.nodeAt ⟨l⟩ i).kids.map (Kp365.goProof ⟨l⟩ w f)).foldl (fun (a : Option (List Nat)) (b : Option (List Nat)) => match a, b with
        | none, y => y
        | x, none => x
        | some x, some y => if y.length < x.length then some y else some x) none) = _
    rw [nodeAt_eq h]
    have e : n.kids.map (Kp365.goProof ⟨l⟩ w f) = n.kids.map fun k => if tr l k = w then some (pr l k) else none :=
      List.map_congr_left fun k hk => ih k (by have := W.kid h hk; omega) (by have := W.kid h hk; omega)
    rw [e]
    have ht := tr_eq W h
    have hp := pr_eq W h
    rcases W.node i n h with L | U
    · rw [if_pos L.1] at ht hp
      rw [if_pos L.1, hp, ht]
      cases hs : (n.so == 1) <;> cases w <;> rfl
    · have c0 : ¬ n.kind = 0 := by rcases U.1 with e | e <;> omega
      rw [if_neg c0] at ht hp
      rw [if_neg c0]
      -- the node's own truth, by its kind
      rcases U.1 with c1 | c2
      · rw [if_pos c1] at ht
        rw [decide_eq_true c1] at hp
        cases w
        · rw [if_neg (by intro z; rw [eq_iff_iff] at z; exact absurd (z.mp c1) (by decide))]
          by_cases a : ∀ k ∈ n.kids, tr l k = true
          · have t1 : tr l i = true := by rw [ht]; exact List.all_eq_true.mpr a
            rw [t1, if_neg (by decide)]
            exact short_none _ fun k hk => by rw [a k hk]; decide
          · have t1 : tr l i = false := by
              rw [ht]
              cases q : n.kids.all (tr l) with
              | false => rfl
              | true => exact absurd (List.all_eq_true.mp q) a
            rw [t1, if_neg (by decide)] at hp
            rw [t1, if_pos rfl, hp]
            refine short_all _ ?_
            have : ∃ k, k ∈ n.kids ∧ ¬ tr l k = true := by
              refine Classical.byContradiction fun z => a fun k hk => ?_
              refine Classical.byContradiction fun z2 => z ⟨k, hk, z2⟩
            obtain ⟨k, hk, q⟩ := this
            exact ⟨k, hk, by cases e : tr l k <;> simp_all⟩
        · rw [if_pos (by rw [eq_iff_iff]; exact ⟨fun _ => rfl, fun _ => c1⟩)]
          by_cases a : ∀ k ∈ n.kids, tr l k = true
          · have t1 : tr l i = true := by rw [ht]; exact List.all_eq_true.mpr a
            rw [t1, if_pos rfl] at hp
            rw [t1, if_pos rfl, hp, bind_all _ _ a]
            rfl
          · have t1 : tr l i = false := by
              rw [ht]
              cases q : n.kids.all (tr l) with
              | false => rfl
              | true => exact absurd (List.all_eq_true.mp q) a
            rw [t1, if_neg (by decide)]
            refine bind_some _ _ ?_
            refine Classical.byContradiction fun z => a fun k hk => ?_
            exact Classical.byContradiction fun z2 => z ⟨k, hk, z2⟩
      · have c1 : ¬ n.kind = 1 := by omega
        rw [if_neg c1] at ht
        rw [decide_eq_false c1] at hp
        cases w
        · rw [if_pos (by rw [eq_iff_iff]; exact ⟨fun z => absurd z c1, fun z => by cases z⟩)]
          by_cases a : ∀ k ∈ n.kids, tr l k = false
          · have t1 : tr l i = false := by
              rw [ht]
              cases q : n.kids.any (tr l) with
              | false => rfl
              | true =>
                obtain ⟨k, hk, e⟩ := List.any_eq_true.mp q
                rw [a k hk] at e
                cases e
            rw [t1, if_pos rfl] at hp
            rw [t1, if_pos rfl, hp, bind_all _ _ a]
            rfl
          · have t1 : tr l i = true := by
              rw [ht]
              refine List.any_eq_true.mpr ?_
              refine Classical.byContradiction fun z => a fun k hk => ?_
              cases e : tr l k with
              | false => rfl
              | true => exact absurd ⟨k, hk, e⟩ z
            rw [t1, if_neg (by decide)]
            refine bind_some _ _ ?_
            refine Classical.byContradiction fun z => a fun k hk => ?_
            exact Classical.byContradiction fun z2 => z ⟨k, hk, z2⟩
        · rw [if_neg (by intro z; rw [eq_iff_iff] at z; exact c1 (z.mpr rfl))]
          by_cases a : ∀ k ∈ n.kids, tr l k = false
          · have t1 : tr l i = false := by
              rw [ht]
              cases q : n.kids.any (tr l) with
              | false => rfl
              | true =>
                obtain ⟨k, hk, e⟩ := List.any_eq_true.mp q
                rw [a k hk] at e
                cases e
            rw [t1, if_neg (by decide)]
            exact short_none _ fun k hk => by rw [a k hk]; decide
          · have t1 : tr l i = true := by
              rw [ht]
              refine List.any_eq_true.mpr ?_
              refine Classical.byContradiction fun z => a fun k hk => ?_
              cases e : tr l k with
              | false => rfl
              | true => exact absurd ⟨k, hk, e⟩ z
            rw [t1, if_neg (by decide)] at hp
            rw [t1, if_pos rfl, hp]
            refine short_all _ ?_
            obtain ⟨k, hk, e⟩ := List.any_eq_true.mp (ht.symm.trans t1)
            exact ⟨k, hk, e⟩
theorem proof_eq {l : List Node} (W : WF l) {i : Nat} (hi : i < l.length) : Kp365.proof ⟨l⟩ i = pr l i := by
  unfold Kp365.proof
  rw [isTrue_eq W hi, goProof_eq W _ _ i (by have := W.len; show i < 20 + 1; omega) hi, if_pos rfl]
  rfl
/-- among the children there is one that is as the node itself -/
theorem alike_some {l : List Node} (W : WF l) {i : Nat} {n : Node} (h : l[i]? = some n) (U : UpOk i n) : (n.kids.filter fun k => tr l k == tr l i) ≠ [] := by
  have hne : n.kids ≠ [] := by
    intro e
    have := U.2.1
    rw [e] at this
    simp at this
  have ht := tr_eq W h
  rw [if_neg (by rcases U.1 with e | e <;> omega)] at ht
  have some_ : ∃ k ∈ n.kids, tr l k = tr l i := by
    obtain ⟨k0, hk0⟩ := List.exists_mem_of_ne_nil _ hne
    rw [ht]
    by_cases c1 : n.kind = 1
    · rw [if_pos c1]
      cases q : n.kids.all (tr l) with
      | true => exact ⟨k0, hk0, List.all_eq_true.mp q k0 hk0⟩
      | false =>
        refine Classical.byContradiction fun z => ?_
        rw [List.all_eq_true.mpr fun k hk => ?_] at q
        · cases q
        · cases e : tr l k with
          | true => rfl
          | false => exact absurd ⟨k, hk, e⟩ z
    · rw [if_neg c1]
      cases q : n.kids.any (tr l) with
      | true =>
        obtain ⟨k, hk, e⟩ := List.any_eq_true.mp q
        exact ⟨k, hk, e⟩
      | false =>
        refine ⟨k0, hk0, ?_⟩
        cases e : tr l k0 with
        | false => rfl
        | true =>
          rw [List.any_eq_true.mpr ⟨k0, hk0, e⟩] at q
          cases q
  obtain ⟨k, hk, e⟩ := some_
  intro z
  have : k ∈ n.kids.filter fun k => tr l k == tr l i := List.mem_filter.mpr ⟨hk, by rw [e]; exact beq_self_eq_true _⟩
  rw [z] at this
  cases this
/-! ### 9. How many leaves a node has -/
def sumL (g : Nat → Nat) (ks : List Nat) : Nat := (ks.map g).sum
theorem sumL_perm {g : Nat → Nat} {a b : List Nat} (h : a.Perm b) : sumL g a = sumL g b := (h.map g).sum_nat
theorem sumL_split (g : Nat → Nat) (p : Nat → Bool) (ks : List Nat) : sumL g ks = sumL g (ks.filter p) + sumL g (ks.filter fun k => !p k) := by
  induction ks with
  | nil => rfl
  | cons k r ih =>
    cases e : p k with
    | true =>
      rw [List.filter_cons_of_pos e, List.filter_cons_of_neg (by rw [e]; decide)]
      unfold sumL at *
      simp only [List.map_cons, List.sum_cons]
      omega
    | false =>
      rw [List.filter_cons_of_neg (by rw [e]; decide), List.filter_cons_of_pos (by rw [e]; rfl)]
      unfold sumL at *
      simp only [List.map_cons, List.sum_cons]
      omega
theorem sumL_mem (g : Nat → Nat) {ks : List Nat} {k : Nat} (h : k ∈ ks) : g k ≤ sumL g ks := by
  induction ks with
  | nil => cases h
  | cons a r ih =>
    unfold sumL at *
    simp only [List.map_cons, List.sum_cons]
    rcases List.mem_cons.mp h with e | e
    · rw [e]
      omega
    · have := ih e
      omega
theorem sumL_congr {g q : Nat → Nat} {ks : List Nat} (h : ∀ k ∈ ks, g k = q k) : sumL g ks = sumL q ks := by
  unfold sumL
  rw [List.map_congr_left h]
def isKid (l : List Node) (k : Nat) : Bool := l.any fun n => n.kids.contains k
def roots (l : List Node) : List Nat := (List.range l.length).filter fun k => !isKid l k
theorem isKid_iff {l : List Node} {k : Nat} : isKid l k = true ↔ ∃ (i : Nat) (n : Node), l[i]? = some n ∧ k ∈ n.kids := by
  unfold isKid
  rw [List.any_eq_true]
  constructor
  · rintro ⟨n, hn, hk⟩
    obtain ⟨i, hi⟩ := List.getElem?_of_mem hn
    exact ⟨i, n, hi, List.contains_iff_mem.mp hk⟩
  · rintro ⟨i, n, hi, hk⟩
    exact ⟨n, List.mem_of_getElem? hi, List.contains_iff_mem.mpr hk⟩
theorem get_app_left {l : List Node} {n : Node} {i : Nat} (h : i < l.length) : (l ++ [n])[i]? = l[i]? := List.getElem?_append_left h
theorem get_app_last {l : List Node} {n : Node} : (l ++ [n])[l.length]? = some n := by
  rw [List.getElem?_append_right (Nat.le_refl _)]
  simp
theorem WF.init {l : List Node} {n : Node} (W : WF (l ++ [n])) : WF l where
  len := by
    have := W.len
    rw [List.length_append] at this
    simp at this
    omega
  node := fun i m h => W.node i m (by rw [get_app_left (lt_of_get h)]; exact h)
  par := fun i j a b k ha hb => W.par i j a b k (by rw [get_app_left (lt_of_get ha)]; exact ha) (by rw [get_app_left (lt_of_get hb)]; exact hb)
theorem lv_app {l : List Node} {n : Node} {i : Nat} (h : i < l.length) : lv (l ++ [n]) i = lv l i := by
  unfold lv lvT
  rw [tab_snoc, List.getD_eq_getElem?_getD, List.getElem?_append_left (by rw [tab_len]; exact h), List.getD_eq_getElem?_getD]
theorem flat_len (l : List Node) (ks : List Nat) : (ks.flatMap (lv l)).length = sumL (fun k => (lv l k).length) ks := by
  rw [List.length_flatMap]
  rfl
theorem roots_sum : ∀ l : List Node, WF l → sumL (fun k => (lv l k).length) (roots l) ≤ l.length := by
  refine fun l => snoc_ind (P := fun l => WF l → sumL (fun k => (lv l k).length) (roots l) ≤ l.length) (fun _ => Nat.le_refl _) (fun l n ih W => ?_) l
  have ih := ih W.init
  have hn := get_app_last (l := l) (n := n)
  have last : isKid (l ++ [n]) l.length = false := by
    cases e : isKid (l ++ [n]) l.length with
    | false => rfl
    | true =>
      obtain ⟨i, m, hi, hk⟩ := isKid_iff.mp e
      have := W.kid hi hk
      have := lt_of_get hi
      rw [List.length_append] at this
      simp at this
      omega
  have kid : ∀ k, isKid (l ++ [n]) k = (isKid l k || n.kids.contains k) := by
    intro k
    unfold isKid
    rw [List.any_append]
    simp
  have er : roots (l ++ [n]) = ((roots l).filter fun k => !n.kids.contains k) ++ [l.length] := by
    unfold roots
    rw [List.length_append]
    show (List.range (l.length + 1)).filter _ = _
    rw [List.range_succ, List.filter_append, List.filter_filter]
    congr 1
    · refine List.filter_congr fun k _ => ?_
      rw [kid]
      cases isKid l k <;> cases n.kids.contains k <;> rfl
    · rw [List.filter_cons_of_pos (by rw [last]; rfl)]
      rfl
  have e1 : sumL (fun k => (lv (l ++ [n]) k).length) ((roots l).filter fun k => !n.kids.contains k) = sumL (fun k => (lv l k).length) ((roots l).filter fun k => !n.kids.contains k) := by
    refine sumL_congr fun k hk => ?_
    have : k ∈ roots l := (List.mem_filter.mp hk).1
    rw [lv_app (List.mem_range.mp (List.mem_filter.mp this).1)]
  have e2 : sumL (fun k => (lv (l ++ [n]) k).length) ([l.length]) = (lv (l ++ [n]) l.length).length := by
    unfold sumL
    simp
  have e3 : ∀ a b : List Nat, sumL (fun k => (lv (l ++ [n]) k).length) (a ++ b) = sumL (fun k => (lv (l ++ [n]) k).length) a + sumL (fun k => (lv (l ++ [n]) k).length) b := by
    intro a b
    unfold sumL
    rw [List.map_append, List.sum_append]
  rw [er, e3, e1, e2, List.length_append]
  show _ ≤ l.length + 1
  have sp := sumL_split (fun k => (lv l k).length) (fun k => n.kids.contains k) (roots l)
  rcases W.node _ n hn with L | U
  · have : lv (l ++ [n]) l.length = [l.length] := by
      rw [lv_eq W hn, if_pos L.1]
    rw [this]
    show _ + 1 ≤ _
    omega
  · have ek : lv (l ++ [n]) l.length = n.kids.flatMap (lv (l ++ [n])) := by
      rw [lv_eq W hn, if_neg (by rcases U.1 with e | e <;> omega)]
    have hk : ∀ k ∈ n.kids, k < l.length := U.2.2.2.2.2.2
    have e4 : (n.kids.flatMap (lv (l ++ [n]))).length = sumL (fun k => (lv l k).length) n.kids := by
      rw [flat_len]
      exact sumL_congr fun k hk' => by rw [lv_app (hk k hk')]
    rw [ek, e4]
    -- the children are roots
    have free : ∀ k ∈ n.kids, isKid l k = false := by
      intro k hk'
      cases e : isKid l k with
      | false => rfl
      | true =>
        obtain ⟨i, m, hi, hm⟩ := isKid_iff.mp e
        have hil := lt_of_get hi
        have := W.par i l.length m n k (by rw [get_app_left hil]; exact hi) hn hm hk'
        omega
    have perm : n.kids.Perm ((roots l).filter fun k => n.kids.contains k) := by
      refine (List.perm_ext_iff_of_nodup U.2.2.2.2.2.1 ?_).mpr fun k => ?_
      · exact List.Pairwise.filter _ (List.Pairwise.filter _ List.nodup_range)
      · constructor
        · intro hk'
          refine List.mem_filter.mpr ⟨List.mem_filter.mpr ⟨List.mem_range.mpr (hk k hk'), by rw [free k hk']; rfl⟩, List.contains_iff_mem.mpr hk'⟩
        · intro h
          exact List.contains_iff_mem.mp (List.mem_filter.mp h).2
    rw [sumL_perm perm]
    omega
/-- a node has at most as many leaves as there are nodes -/
theorem lv_20 : ∀ l : List Node, WF l → ∀ i, i < l.length → (lv l i).length ≤ 20 := by
  refine fun l => snoc_ind (P := fun l => WF l → ∀ i, i < l.length → (lv l i).length ≤ 20) (fun _ i h => by simp at h) (fun l n ih W i hi => ?_) l
  by_cases c : i < l.length
  · rw [lv_app c]
    exact ih W.init i c
  · have ei : i = l.length := by
      rw [List.length_append] at hi
      simp at hi
      omega
    subst ei
    have s := roots_sum _ W
    have hm : l.length ∈ roots (l ++ [n]) := by
      refine List.mem_filter.mpr ⟨List.mem_range.mpr hi, ?_⟩
      cases e : isKid (l ++ [n]) l.length with
      | false => rfl
      | true =>
        obtain ⟨i, m, hi, hk⟩ := isKid_iff.mp e
        have := W.kid hi hk
        have := lt_of_get hi
        rw [List.length_append] at this
        simp at this
        omega
    have := sumL_mem (fun k => (lv (l ++ [n]) k).length) hm
    have := W.len
    omega
end Dis
end
section
set_option linter.unusedVariables false
namespace Dis
open Kp365 (Node Desk)
open Kp340 (Fr fr)
/-! ### 10. A proof is no longer than the leaves -/
theorem shortest_mem : ∀ (rows : List (List Nat)), rows ≠ [] → shortest rows ∈ rows := by
  have go : ∀ (r : List (List Nat)) (x : List Nat), r.foldl (fun b r => if r.length < b.length then r else b) x ∈ x :: r := by
    intro r
    induction r with
    | nil => intro x; exact List.mem_cons_self ..
    | cons y r ih =>
      intro x
      rw [List.foldl_cons]
      split
      · exact List.mem_cons_of_mem _ (ih y)
      · rcases List.mem_cons.mp (ih x) with e | e
        · rw [e]
          exact List.mem_cons_self ..
        · exact List.mem_cons_of_mem _ (List.mem_cons_of_mem _ e)
  intro rows h
  cases rows with
  | nil => exact absurd rfl h
  | cons x r =>
    unfold shortest
    rcases List.mem_cons.mp (go (x :: r) x) with e | e
    · show List.foldl _ x (x :: r) ∈ _
      rw [e]
      exact List.mem_cons_self ..
    · exact e
theorem sumL_le {g q : Nat → Nat} {ks : List Nat} (h : ∀ k ∈ ks, g k ≤ q k) : sumL g ks ≤ sumL q ks := by
  induction ks with
  | nil => exact Nat.le_refl _
  | cons k r ih =>
    have a := h k (List.mem_cons_self ..)
    have b := ih fun x hx => h x (List.mem_cons_of_mem _ hx)
    unfold sumL at *
    simp only [List.map_cons, List.sum_cons]
    omega
theorem pr_len {l : List Node} (W : WF l) : ∀ b i, i < b → i < l.length → (pr l i).length ≤ (lv l i).length := by
  intro b
  induction b with
  | zero => intro i h; omega
  | succ b ih =>
    intro i hb hi
    obtain ⟨n, h⟩ := get_of_lt hi
    rw [pr_eq W h, lv_eq W h]
    by_cases c0 : n.kind = 0
    · rw [if_pos c0, if_pos c0]
      exact Nat.le_refl _
    · rw [if_neg c0, if_neg c0]
      have hk : ∀ k ∈ n.kids, (pr l k).length ≤ (lv l k).length := fun k hk => ih k (by have := W.kid h hk; omega) (by have := W.kid h hk; omega)
      split
      · rw [List.length_flatMap, List.length_flatMap]
        exact sumL_le (g := fun k => (pr l k).length) (q := fun k => (lv l k).length) hk
      · have U : UpOk i n := (W.node i n h).resolve_left fun L => c0 L.1
        have ne : (n.kids.filter fun k => tr l k == tr l i).map (pr l) ≠ [] := by
          intro z
          exact alike_some W h U (List.map_eq_nil_iff.mp z)
        obtain ⟨k, hk', e⟩ := List.mem_map.mp (shortest_mem _ ne)
        have hm := (List.mem_filter.mp hk').1
        rw [← e, List.length_flatMap]
        exact Nat.le_trans (hk k hm) (sumL_mem (fun k => (lv l k).length) hm)
theorem pr_20 {l : List Node} (W : WF l) {i : Nat} (hi : i < l.length) : (pr l i).length ≤ 20 :=
  Nat.le_trans (pr_len W (i + 1) i (Nat.lt_succ_self i) hi) (lv_20 l W i hi)
/-! ### 11. What changes a tree -/
def leafN (b : Bool) (w : Nat) : Node := ⟨0, if b then 1 else 0, w, []⟩
def putAt (l : List Node) (j : Nat) (n : Node) : List Node := l.take j ++ [n] ++ l.drop (j + 1)
def nd (l : List Node) (j : Nat) : Node := l.getD j ⟨0, 0, 0, []⟩
def flipd (l : List Node) (j : Nat) : List Node := putAt l j (leafN (!((nd l j).so == 1)) (nd l j).wrong)
def misr (l : List Node) (j w : Nat) : List Node := putAt l j (leafN ((nd l j).so == 1) w)
theorem nd_eq {l : List Node} {j : Nat} {n : Node} (h : l[j]? = some n) : nd l j = n := by
  unfold nd
  rw [List.getD_eq_getElem?_getD, h]
  rfl
theorem putAt_set {l : List Node} {j : Nat} {n : Node} (h : j < l.length) : putAt l j n = l.set j n := by
  unfold putAt
  rw [List.set_eq_take_append_cons_drop, if_pos h, List.append_assoc]
  rfl
theorem putAt_len {l : List Node} {j : Nat} {n : Node} (h : j < l.length) : (putAt l j n).length = l.length := by
  rw [putAt_set h, List.length_set]
theorem putAt_get {l : List Node} {j i : Nat} {n : Node} (h : j < l.length) : (putAt l j n)[i]? = if i = j then some n else l[i]? := by
  rw [putAt_set h, List.getElem?_set]
  by_cases e : i = j
  · rw [if_pos e.symm, if_pos e, if_pos h]
  · rw [if_neg (fun z => e z.symm), if_neg e]
theorem flipd_eq {l : List Node} {j : Nat} {n : Node} (h : l[j]? = some n) (L : LeafOk n) : (Kp365.withSo ⟨l⟩ j) = ⟨flipd l j⟩ := by
  unfold Kp365.withSo flipd
  rw [putAt_set (lt_of_get h), nodeAt_eq h, nd_eq h]
  obtain ⟨k, so, w, ks⟩ := n
  obtain ⟨e1, e2, e3, e4⟩ := L
  dsimp only at e1 e2 e3 e4
  subst e1 e4
  have : so = 0 ∨ so = 1 := by omega
  rcases this with e | e <;> subst e <;> rfl
theorem misr_eq {l : List Node} {j w : Nat} {n : Node} (h : l[j]? = some n) (L : LeafOk n) : (Kp365.withWrong ⟨l⟩ j w) = ⟨misr l j w⟩ := by
  unfold Kp365.withWrong misr
  rw [putAt_set (lt_of_get h), nodeAt_eq h, nd_eq h]
  obtain ⟨k, so, w', ks⟩ := n
  obtain ⟨e1, e2, e3, e4⟩ := L
  dsimp only at e1 e2 e3 e4
  subst e1 e4
  have : so = 0 ∨ so = 1 := by omega
  rcases this with e | e <;> subst e <;> rfl
theorem WF.nil : WF [] where
  len := Nat.zero_le _
  node := fun i n h => by simp at h
  par := fun i j n m k h => by simp at h
theorem leafN_ok {b : Bool} {w : Nat} (h : w ≤ 100) : LeafOk (leafN b w) := ⟨rfl, by cases b <;> (unfold leafN; decide +revert), h, rfl⟩
theorem WF.put {l : List Node} (W : WF l) {j : Nat} {m n : Node} (h : l[j]? = some m) (L : LeafOk n) : WF (putAt l j n) where
  len := by rw [putAt_len (lt_of_get h)]; exact W.len
  node := fun i a ha => by
    rw [putAt_get (lt_of_get h)] at ha
    by_cases e : i = j
    · rw [if_pos e] at ha
      cases ha
      exact .inl L
    · rw [if_neg e] at ha
      exact W.node i a ha
  par := fun i k a b x ha hb hx hy => by
    rw [putAt_get (lt_of_get h)] at ha hb
    by_cases e : i = j
    · rw [if_pos e] at ha
      cases ha
      rw [L.2.2.2] at hx
      cases hx
    · rw [if_neg e] at ha
      by_cases e2 : k = j
      · rw [if_pos e2] at hb
        cases hb
        rw [L.2.2.2] at hy
        cases hy
      · rw [if_neg e2] at hb
        exact W.par i k a b x ha hb hx hy
theorem WF.flip {l : List Node} (W : WF l) {j : Nat} {n : Node} (h : l[j]? = some n) (L : LeafOk n) : WF (flipd l j) :=
  W.put h (leafN_ok (by rw [nd_eq h]; exact L.2.2.1))
theorem WF.mis {l : List Node} (W : WF l) {j w : Nat} {n : Node} (h : l[j]? = some n) (hw : w ≤ 100) : WF (misr l j w) := W.put h (leafN_ok hw)
theorem flipd_len {l : List Node} {j : Nat} (h : j < l.length) : (flipd l j).length = l.length := putAt_len h
theorem misr_len {l : List Node} {j w : Nat} (h : j < l.length) : (misr l j w).length = l.length := putAt_len h
theorem WF.snoc {l : List Node} (W : WF l) {n : Node} (h : l.length < 20) (ok : LeafOk n ∨ UpOk l.length n) (free : ∀ k ∈ n.kids, isKid l k = false) : WF (l ++ [n]) where
  len := by
    rw [List.length_append]
    show l.length + 1 ≤ 20
    omega
  node := fun i a ha => by
    by_cases c : i < l.length
    · rw [get_app_left c] at ha
      exact W.node i a ha
    · have hi := lt_of_get ha
      rw [List.length_append] at hi
      have e : i = l.length := by
        simp at hi
        omega
      subst e
      rw [get_app_last] at ha
      cases ha
      exact ok
  par := by
    have end_ : ∀ (i : Nat) (a : Node), (l ++ [n])[i]? = some a → (i < l.length ∧ l[i]? = some a) ∨ (i = l.length ∧ a = n) := by
      intro i a ha
      by_cases c : i < l.length
      · rw [get_app_left c] at ha
        exact .inl ⟨c, ha⟩
      · have hi := lt_of_get ha
        rw [List.length_append] at hi
        have e : i = l.length := by
          simp at hi
          omega
        subst e
        rw [get_app_last] at ha
        cases ha
        exact .inr ⟨rfl, rfl⟩
    intro i j a b k ha hb hx hy
    rcases end_ i a ha with ⟨ci, ha⟩ | ⟨ei, ea⟩
    · rcases end_ j b hb with ⟨cj, hb⟩ | ⟨ej, eb⟩
      · exact W.par i j a b k ha hb hx hy
      · rw [eb] at hy
        have := free k hy
        rw [isKid_iff.mpr ⟨i, a, ha, hx⟩] at this
        cases this
    · rcases end_ j b hb with ⟨cj, hb⟩ | ⟨ej, eb⟩
      · rw [ea] at hx
        have := free k hx
        rw [isKid_iff.mpr ⟨j, b, hb, hy⟩] at this
        cases this
      · omega
theorem WF.dropLast {l : List Node} (W : WF l) : WF l.dropLast := by
  by_cases h : l = []
  · rw [h]
    exact .nil
  · rw [← List.dropLast_concat_getLast h] at W
    exact W.init
/-! ### 12. Children that may be taken -/
theorem dups_le : ∀ (b : Nat) (l : List Nat), l.length < b → l.eraseDups.length ≤ l.length ∧ (l.eraseDups.length = l.length ↔ l.Nodup) := by
  intro b
  induction b with
  | zero => intro l h; omega
  | succ b ih =>
    intro l h
    cases l with
    | nil => exact ⟨Nat.le_refl _, ⟨fun _ => List.nodup_nil, fun _ => rfl⟩⟩
    | cons a r =>
      have hf := List.length_filter_le (fun b => !b == a) r
      rw [List.length_cons] at h
      obtain ⟨q1, q2⟩ := ih (r.filter fun b => !b == a) (by omega)
      rw [List.eraseDups_cons, List.length_cons, List.length_cons, List.nodup_cons]
      refine ⟨by omega, ?_⟩
      constructor
      · intro e
        have e1 : (r.filter fun b => !b == a).length = r.length := by omega
        have e2 : (r.filter fun b => !b == a) = r := List.filter_eq_self.mpr (List.length_filter_eq_length_iff.mp e1)
        rw [e2] at q2 e
        refine ⟨fun m => ?_, q2.mp (by omega)⟩
        have := List.length_filter_eq_length_iff.mp e1 a m
        simp at this
      · rintro ⟨m, nd⟩
        have e2 : (r.filter fun b => !b == a) = r := by
          refine List.filter_eq_self.mpr fun x hx => ?_
          have : x ≠ a := fun z => m (z ▸ hx)
          simp [this]
        rw [e2] at q2 ⊢
        rw [q2.mpr nd]
theorem eraseDups_iff (l : List Nat) : (l.eraseDups.length == l.length) = true ↔ l.Nodup := by
  rw [beq_iff_eq]
  exact (dups_le (l.length + 1) l (Nat.lt_succ_self _)).2
def areFree (l : List Node) (row : List Nat) : Bool := decide (1 ≤ row.length) && decide (row.length ≤ 4) && decide row.Nodup && row.all fun k => decide (k < l.length) && !isKid l k
theorem okKids_eq (l : List Node) (row : List Nat) : Kp365.okKids ⟨l⟩ row = areFree l row := by
  unfold Kp365.okKids areFree
  have e : (row.eraseDups.length == row.length) = decide row.Nodup := by
    cases e : decide row.Nodup with
    | true => exact (eraseDups_iff row).mpr (of_decide_eq_true e)
    | false =>
      cases e2 : (row.eraseDups.length == row.length) with
      | false => rfl
      | true => exact absurd ((eraseDups_iff row).mp e2) (of_decide_eq_false e)
  rw [e]
  rfl
theorem WF.above {l : List Node} (W : WF l) {kind : Nat} {row : List Nat} (hk : kind = 1 ∨ kind = 2) (h : l.length < 20) (ok : areFree l row = true) : WF (l ++ [⟨kind, 0, 0, row⟩]) := by
  unfold areFree at ok
  rw [Bool.and_eq_true, Bool.and_eq_true, Bool.and_eq_true, decide_eq_true_iff, decide_eq_true_iff, decide_eq_true_iff, List.all_eq_true] at ok
  obtain ⟨⟨⟨a, b⟩, c⟩, d⟩ := ok
  have d' : ∀ k ∈ row, k < l.length ∧ isKid l k = false := fun k hk => by
    have := d k hk
    rw [Bool.and_eq_true, decide_eq_true_iff] at this
    refine ⟨this.1, ?_⟩
    cases e : isKid l k with
    | false => rfl
    | true =>
      rw [e] at this
      cases this.2
  exact W.snoc h (.inr ⟨hk, a, b, rfl, rfl, c, fun k hk => (d' k hk).1⟩) fun k hk => (d' k hk).2
/-! ### 13. What matters, the best leaf -/
def mat (l : List Node) (i : Nat) : List Nat := (lv l i).filter fun j => tr (flipd l j) i != tr l i
theorem matter_eq {l : List Node} (W : WF l) {i : Nat} (hi : i < l.length) : Kp365.matter ⟨l⟩ i = mat l i := by
  unfold Kp365.matter mat
  rw [leaves_eq W hi, isTrue_eq W hi]
  refine List.filter_congr fun j hj => ?_
  obtain ⟨hjl, m, hm, L⟩ := lv_leaf W hi hj
  rw [flipd_eq hm L, isTrue_eq (W.flip hm L) (by rw [flipd_len hjl]; exact hi)]
def bestGo (l : List Node) (i : Nat) (s : Option Nat × Nat) (j : Nat) : Option Nat × Nat := if s.2 < rw_ (misr l j 0) i then (some j, rw_ (misr l j 0) i) else s
def best (l : List Node) (i : Nat) : Option Nat × Nat := (lv l i).foldl (bestGo l i) (none, rw_ l i)
theorem best_go {l : List Node} (W : WF l) {i : Nat} (hi : i < l.length) : ∀ (js : List Nat), (∀ j ∈ js, j ∈ lv l i) → ∀ (o : Option Nat) (m : Nat), (∀ j, o = some j → j < l.length) →
    js.foldl (fun (b : Nat × Fr) (j : Nat) => let r := Kp365.right (Kp365.withWrong ⟨l⟩ j 0) i
          if Kp346.ltF b.2 r then (j, r) else b) (o.getD 99, fr (m : Nat) 100) = (((js.foldl (bestGo l i) (o, m)).1).getD 99, fr ((js.foldl (bestGo l i) (o, m)).2 : Nat) 100) ∧
    ∀ j, (js.foldl (bestGo l i) (o, m)).1 = some j → j < l.length := by
  intro js
  induction js with
  | nil =>
    intro _ o m h
    exact ⟨rfl, h⟩
  | cons j r ih =>
    intro hm o m ho
    obtain ⟨hjl, n, hn, L⟩ := lv_leaf W hi (hm j (List.mem_cons_self ..))
    have hr : Kp365.right (Kp365.withWrong ⟨l⟩ j 0) i = fr (rw_ (misr l j 0) i : Nat) 100 := by
      rw [misr_eq hn L, right_eq (W.mis hn (Nat.zero_le _)) (by rw [misr_len hjl]; exact hi)]
    rw [List.foldl_cons, List.foldl_cons]
    have e : (let r := Kp365.right (Kp365.withWrong ⟨l⟩ j 0) i
          if Kp346.ltF (o.getD 99, fr (m : Nat) 100).2 r then (j, r) else (o.getD 99, fr (m : Nat) 100)) = ((bestGo l i (o, m) j).1.getD 99, fr ((bestGo l i (o, m) j).2 : Nat) 100) := by
      show (if Kp346.ltF (fr (m : Nat) 100) (Kp365.right (Kp365.withWrong ⟨l⟩ j 0) i) then (j, Kp365.right (Kp365.withWrong ⟨l⟩ j 0) i) else (o.getD 99, fr (m : Nat) 100)) = _
      rw [hr, ltF_fr]
      unfold bestGo
      by_cases c : m < rw_ (misr l j 0) i
      · rw [decide_eq_true c, if_pos rfl, if_pos c]
        rfl
      · rw [decide_eq_false c, if_neg Bool.false_ne_true, if_neg c]
    rw [e]
    refine ih (fun x hx => hm x (List.mem_cons_of_mem _ hx)) (bestGo l i (o, m) j).1 (bestGo l i (o, m) j).2 fun x hx => ?_
    unfold bestGo at hx
    by_cases c : m < rw_ (misr l j 0) i
    · rw [if_pos c] at hx
      cases hx
      exact hjl
    · rw [if_neg c] at hx
      exact ho x hx
theorem best_eq {l : List Node} (W : WF l) {i : Nat} (hi : i < l.length) :
    (Kp365.leaves ⟨l⟩ i).foldl (fun (b : Nat × Fr) (j : Nat) => let r := Kp365.right (Kp365.withWrong ⟨l⟩ j 0) i
          if Kp346.ltF b.2 r then (j, r) else b) (99, Kp365.right ⟨l⟩ i) = ((best l i).1.getD 99, fr ((best l i).2 : Nat) 100) ∧ ∀ j, (best l i).1 = some j → j < l.length := by
  rw [leaves_eq W hi, right_eq W hi]
  exact best_go W hi (lv l i) (fun _ h => h) none (rw_ l i) (fun j h => by cases h)
theorem best_le {l : List Node} (W : WF l) {i : Nat} (hi : i < l.length) : (best l i).2 ≤ 100 := by
  have go : ∀ (js : List Nat), (∀ j ∈ js, j ∈ lv l i) → ∀ s : Option Nat × Nat, s.2 ≤ 100 → (js.foldl (bestGo l i) s).2 ≤ 100 := by
    intro js
    induction js with
    | nil => intro _ s h; exact h
    | cons j r ih =>
      intro hm s hs
      rw [List.foldl_cons]
      refine ih (fun x hx => hm x (List.mem_cons_of_mem _ hx)) _ ?_
      obtain ⟨hjl, n, hn, L⟩ := lv_leaf W hi (hm j (List.mem_cons_self ..))
      unfold bestGo
      split
      · exact rw_le (W.mis hn (Nat.zero_le _)) (by rw [misr_len hjl]; exact hi)
      · exact hs
  exact go _ (fun _ h => h) _ (rw_le W hi)
/-- by told picks, too, no more than all -/
theorem hb_100 {told : Nat} {ps : List Nat} {l : List Node} (W : WF l) (P : arePicks told l ps = true) : ∀ b i, i < b → i < l.length → hb told ps l i ≤ 100 := by
  intro b
  induction b with
  | zero => intro i h; omega
  | succ b ih =>
    intro i hb' hi
    obtain ⟨n, h⟩ := get_of_lt hi
    rw [hb_eq W h]
    rcases W.node i n h with L | U
    · rw [if_pos L.1]
      unfold readSo
      have := L.2.2.1
      split <;> omega
    · rw [if_neg (by rcases U.1 with e | e <;> omega)]
      have hk : ∀ k ∈ n.kids, hb told ps l k ≤ 100 := fun k hk => by
        have := W.kid h hk
        exact ih k (by omega) (by omega)
      by_cases c : n.kind = told
      · rw [if_pos c]
        have hp := (arePicks_iff.mp P).2 i n h
        unfold pickOk at hp
        rw [if_pos c] at hp
        have lt : ps.getD i 0 < (n.kids.map (hb told ps l)).length := by
          rw [List.length_map]
          exact of_decide_eq_true hp
        generalize ps.getD i 0 = p at lt
        rw [List.getD_eq_getElem?_getD, List.getElem?_eq_getElem lt]
        obtain ⟨k, hk', e⟩ := List.mem_map.mp (List.getElem_mem lt)
        show (n.kids.map (hb told ps l))[p] ≤ 100
        rw [← e]
        exact hk k hk'
      · rw [if_neg c]
        split
        · exact minL_100 _
        · refine maxL_le fun x hx => ?_
          obtain ⟨k, hk', rfl⟩ := List.mem_map.mp hx
          exact hk k hk'
theorem hb_le {told : Nat} {ps : List Nat} {l : List Node} (W : WF l) (P : arePicks told l ps = true) {i : Nat} (hi : i < l.length) : hb told ps l i ≤ 100 := hb_100 W P (i + 1) i (Nat.lt_succ_self i) hi
end Dis
end
section
set_option linter.unusedVariables false
/-! # The specification's steps, in the mirror's words -/
namespace Dis
open Kp365 (Node step say Ans)
open Kp340 (fr)
theorem nodeB {l : List Node} {i : Nat} : Kp365.isNode ⟨l⟩ i = decide (i < l.length) := rfl
theorem of_yes {l : List Node} {i : Nat} {a : Ans} (h : i < l.length) : Kp365.of (some ⟨l⟩) ⟨l⟩ i a = (some ⟨l⟩, a) := by
  unfold Kp365.of
  rw [nodeB, if_neg (by rw [decide_eq_true h]; decide)]
theorem of_no {l : List Node} {i : Nat} {a : Ans} (h : ¬ i < l.length) : Kp365.of (some ⟨l⟩) ⟨l⟩ i a = (some ⟨l⟩, say (-2)) := by
  unfold Kp365.of
  rw [nodeB, if_pos (decide_eq_false h)]
theorem frRow_eq (h : Nat) : (Kp365.frRow (fr (h : Nat) 100)) = ⟨0, frac h⟩ := by
  unfold Kp365.frRow
  rw [frac_eq]
/-! leaf -/
theorem st_leaf_bad {l : List Node} {so w : Nat} (h : ¬ (so ≤ 1 ∧ w ≤ 100)) : step (some ⟨l⟩) (.leaf so w) = (some ⟨l⟩, say (-22)) := by
  show (if 1 < so ∨ 100 < w then _ else _) = _
  exact if_pos (by omega)
theorem st_leaf_full {l : List Node} {so w : Nat} (h : so ≤ 1 ∧ w ≤ 100) (hl : ¬ l.length < 20) : step (some ⟨l⟩) (.leaf so w) = (some ⟨l⟩, say (-28)) := by
  show (if 1 < so ∨ 100 < w then _ else if 20 ≤ l.length then _ else _) = _
  rw [if_neg (by omega), if_pos (by omega)]
theorem leafN_so {so w : Nat} (h : so ≤ 1) : leafN (so == 1) w = ⟨0, so, w, []⟩ := by
  have : so = 0 ∨ so = 1 := by omega
  rcases this with e | e <;> subst e <;> rfl
theorem st_leaf {l : List Node} {so w : Nat} (h : so ≤ 1 ∧ w ≤ 100) (hl : l.length < 20) : step (some ⟨l⟩) (.leaf so w) = (some ⟨l ++ [leafN (so == 1) w]⟩, say (l.length : Nat)) := by
  rw [leafN_so h.1]
  show (if 1 < so ∨ 100 < w then _ else if 20 ≤ l.length then _ else _) = _
  rw [if_neg (by omega), if_neg (by omega)]
/-! above -/
def upC (kind : Nat) (row : List Nat) : Kp365.Call := if kind = 1 then .all_ row else .some_ row
theorem st_up_bad {l : List Node} {kind : Nat} {row : List Nat} (h : areFree l row = false) : step (some ⟨l⟩) (upC kind row) = (some ⟨l⟩, say (-22)) := by
  unfold upC
  split
  · show (if Kp365.okKids ⟨l⟩ row = false then _ else _) = _
    exact if_pos (by rw [okKids_eq]; exact h)
  · show (if Kp365.okKids ⟨l⟩ row = false then _ else _) = _
    exact if_pos (by rw [okKids_eq]; exact h)
theorem st_up_full {l : List Node} {kind : Nat} {row : List Nat} (h : areFree l row = true) (hl : ¬ l.length < 20) : step (some ⟨l⟩) (upC kind row) = (some ⟨l⟩, say (-28)) := by
  unfold upC
  split
  · show (if Kp365.okKids ⟨l⟩ row = false then _ else if 20 ≤ l.length then _ else _) = _
    rw [if_neg (by rw [okKids_eq, h]; decide), if_pos (by omega)]
  · show (if Kp365.okKids ⟨l⟩ row = false then _ else if 20 ≤ l.length then _ else _) = _
    rw [if_neg (by rw [okKids_eq, h]; decide), if_pos (by omega)]
theorem st_up {l : List Node} {kind : Nat} {row : List Nat} (hk : kind = 1 ∨ kind = 2) (h : areFree l row = true) (hl : l.length < 20) : step (some ⟨l⟩) (upC kind row) = (some ⟨l ++ [⟨kind, 0, 0, row⟩]⟩, say (l.length : Nat)) := by
  unfold upC
  rcases hk with e | e
  · subst e
    show (if Kp365.okKids ⟨l⟩ row = false then _ else if 20 ≤ l.length then _ else _) = _
    rw [if_neg (by rw [okKids_eq, h]; decide), if_neg (by omega)]
  · subst e
    show (if Kp365.okKids ⟨l⟩ row = false then _ else if 20 ≤ l.length then _ else _) = _
    rw [if_neg (by rw [okKids_eq, h]; decide), if_neg (by omega)]
/-! pop -/
theorem st_pop_no : step (some ⟨[]⟩) .pop = (some ⟨[]⟩, say (-6)) := rfl
theorem st_pop {l : List Node} (h : l ≠ []) : step (some ⟨l⟩) .pop = (some ⟨l.dropLast⟩, say (l.dropLast.length : Nat)) := by
  show (if l.isEmpty = true then _ else (some (Kp365.Desk.mk l.dropLast), say ((l.length - 1 : Nat) : Int))) = _
  rw [if_neg (by intro z; exact h (List.isEmpty_iff.mp z)), List.length_dropLast]
/-! nodeis, flip, wrong -/
theorem st_is_leaf {l : List Node} {i : Nat} {n : Node} (h : l[i]? = some n) (L : LeafOk n) : step (some ⟨l⟩) (.nodeIs i) = (some ⟨l⟩, ⟨0, [(if (n.so == 1) = true then 1 else 0 : Int), (n.wrong : Nat)]⟩) := by
  have e : step (some ⟨l⟩) (.nodeIs i) = Kp365.of (some ⟨l⟩) ⟨l⟩ i ⟨((Kp365.nodeAt ⟨l⟩ i).kind : Int), if (Kp365.nodeAt ⟨l⟩ i).kind = 0 then [((Kp365.nodeAt ⟨l⟩ i).so : Int), ((Kp365.nodeAt ⟨l⟩ i).wrong : Int)] else (Kp365.nodeAt ⟨l⟩ i).kids.map fun (x : Nat) => (x : Int)⟩ := rfl
  rw [e, of_yes (lt_of_get h), nodeAt_eq h, if_pos L.1, L.1]
  have : n.so = 0 ∨ n.so = 1 := by have := L.2.1; omega
  rcases this with e | e <;> rw [e] <;> rfl
theorem st_is_up {l : List Node} {i : Nat} {n : Node} (h : l[i]? = some n) (U : ¬ n.kind = 0) : step (some ⟨l⟩) (.nodeIs i) = (some ⟨l⟩, ⟨(n.kind : Nat), n.kids.map fun (x : Nat) => (x : Int)⟩) := by
  have e : step (some ⟨l⟩) (.nodeIs i) = Kp365.of (some ⟨l⟩) ⟨l⟩ i ⟨((Kp365.nodeAt ⟨l⟩ i).kind : Int), if (Kp365.nodeAt ⟨l⟩ i).kind = 0 then [((Kp365.nodeAt ⟨l⟩ i).so : Int), ((Kp365.nodeAt ⟨l⟩ i).wrong : Int)] else (Kp365.nodeAt ⟨l⟩ i).kids.map fun (x : Nat) => (x : Int)⟩ := rfl
  rw [e, of_yes (lt_of_get h), nodeAt_eq h, if_neg U]
theorem st_flip_no {l : List Node} {i : Nat} (h : ¬ i < l.length) : step (some ⟨l⟩) (.flip i) = (some ⟨l⟩, say (-2)) := by
  show (if Kp365.isNode ⟨l⟩ i = false then _ else _) = _
  exact if_pos (decide_eq_false h)
theorem isLeaf_eq {l : List Node} {i : Nat} {n : Node} (h : l[i]? = some n) : Kp365.isLeaf ⟨l⟩ i = (n.kind == 0) := by
  unfold Kp365.isLeaf
  rw [nodeAt_eq h]
theorem st_flip_up {l : List Node} {i : Nat} {n : Node} (h : l[i]? = some n) (U : ¬ n.kind = 0) : step (some ⟨l⟩) (.flip i) = (some ⟨l⟩, say (-33)) := by
  show (if Kp365.isNode ⟨l⟩ i = false then _ else if Kp365.isLeaf ⟨l⟩ i = false then _ else _) = _
  rw [nodeB, if_neg (by rw [decide_eq_true (lt_of_get h)]; decide), if_pos (by rw [isLeaf_eq h]; exact beq_eq_false_iff_ne.mpr U)]
theorem st_flip {l : List Node} {i : Nat} {n : Node} (h : l[i]? = some n) (L : LeafOk n) : step (some ⟨l⟩) (.flip i) = (some ⟨flipd l i⟩, say (if (!(n.so == 1)) = true then 1 else 0 : Int)) := by
  show (if Kp365.isNode ⟨l⟩ i = false then _ else if Kp365.isLeaf ⟨l⟩ i = false then _ else (some (Kp365.withSo ⟨l⟩ i), say ((1 - (Kp365.nodeAt ⟨l⟩ i).so : Nat) : Int))) = _
  rw [nodeB, if_neg (by rw [decide_eq_true (lt_of_get h)]; decide), if_neg (by rw [isLeaf_eq h, L.1]; decide), flipd_eq h L, nodeAt_eq h]
  have : n.so = 0 ∨ n.so = 1 := by have := L.2.1; omega
  rcases this with e | e <;> rw [e] <;> rfl
theorem st_wrong_no {l : List Node} {i w : Nat} (h : ¬ i < l.length) : step (some ⟨l⟩) (.wrong i w) = (some ⟨l⟩, say (-2)) := by
  show (if Kp365.isNode ⟨l⟩ i = false then _ else _) = _
  exact if_pos (decide_eq_false h)
theorem st_wrong_bad {l : List Node} {i w : Nat} (h : i < l.length) (hw : ¬ w ≤ 100) : step (some ⟨l⟩) (.wrong i w) = (some ⟨l⟩, say (-22)) := by
  show (if Kp365.isNode ⟨l⟩ i = false then _ else if 100 < w then _ else _) = _
  rw [nodeB, if_neg (by rw [decide_eq_true h]; decide), if_pos (by omega)]
theorem st_wrong_up {l : List Node} {i w : Nat} {n : Node} (h : l[i]? = some n) (hw : w ≤ 100) (U : ¬ n.kind = 0) : step (some ⟨l⟩) (.wrong i w) = (some ⟨l⟩, say (-33)) := by
  show (if Kp365.isNode ⟨l⟩ i = false then _ else if 100 < w then _ else if Kp365.isLeaf ⟨l⟩ i = false then _ else _) = _
  rw [nodeB, if_neg (by rw [decide_eq_true (lt_of_get h)]; decide), if_neg (by omega), if_pos (by rw [isLeaf_eq h]; exact beq_eq_false_iff_ne.mpr U)]
theorem st_wrong {l : List Node} {i w : Nat} {n : Node} (h : l[i]? = some n) (hw : w ≤ 100) (L : LeafOk n) : step (some ⟨l⟩) (.wrong i w) = (some ⟨misr l i w⟩, say (n.wrong : Nat)) := by
  show (if Kp365.isNode ⟨l⟩ i = false then _ else if 100 < w then _ else if Kp365.isLeaf ⟨l⟩ i = false then _ else (some (Kp365.withWrong ⟨l⟩ i w), say ((Kp365.nodeAt ⟨l⟩ i).wrong : Nat))) = _
  rw [nodeB, if_neg (by rw [decide_eq_true (lt_of_get h)]; decide), if_neg (by omega), if_neg (by rw [isLeaf_eq h, L.1]; decide), misr_eq h L, nodeAt_eq h]
/-! the questions -/
theorem st_true {l : List Node} (W : WF l) {i : Nat} (h : i < l.length) : step (some ⟨l⟩) (.true_ i) = (some ⟨l⟩, say (if tr l i = true then 1 else 0 : Int)) := by
  have e : step (some ⟨l⟩) (.true_ i) = Kp365.of (some ⟨l⟩) ⟨l⟩ i (Kp365.yes (Kp365.isTrue ⟨l⟩ i)) := rfl
  rw [e, of_yes h, isTrue_eq W h]
  rfl
theorem st_held {l : List Node} (W : WF l) {i : Nat} (h : i < l.length) : step (some ⟨l⟩) (.held i) = (some ⟨l⟩, ⟨0, frac (hd l i)⟩) := by
  have e : step (some ⟨l⟩) (.held i) = Kp365.of (some ⟨l⟩) ⟨l⟩ i (Kp365.frRow (Kp365.held ⟨l⟩ i)) := rfl
  rw [e, of_yes h, held_eq W h, frRow_eq]
theorem st_right {l : List Node} (W : WF l) {i : Nat} (h : i < l.length) : step (some ⟨l⟩) (.right i) = (some ⟨l⟩, ⟨0, frac (rw_ l i)⟩) := by
  have e : step (some ⟨l⟩) (.right i) = Kp365.of (some ⟨l⟩) ⟨l⟩ i (Kp365.frRow (Kp365.right ⟨l⟩ i)) := rfl
  rw [e, of_yes h, right_eq W h, frRow_eq]
theorem st_pick_leaf {l : List Node} {i : Nat} {n : Node} (h : l[i]? = some n) (L : n.kind = 0) : step (some ⟨l⟩) (.pick i) = (some ⟨l⟩, say (-33)) := by
  have e : step (some ⟨l⟩) (.pick i) = Kp365.of (some ⟨l⟩) ⟨l⟩ i (match Kp365.pick ⟨l⟩ i with
        | none => say (-33)
        | some k => say (k : Nat)) := rfl
  rw [e, of_yes (lt_of_get h), pick_leaf h L]
theorem st_pick {l : List Node} (W : WF l) {i : Nat} {n : Node} (h : l[i]? = some n) (U : ¬ n.kind = 0) : step (some ⟨l⟩) (.pick i) = (some ⟨l⟩, say (pk l i n : Nat)) := by
  have e : step (some ⟨l⟩) (.pick i) = Kp365.of (some ⟨l⟩) ⟨l⟩ i (match Kp365.pick ⟨l⟩ i with
        | none => say (-33)
        | some k => say (k : Nat)) := rfl
  rw [e, of_yes (lt_of_get h), (pick_up W h ((W.node i n h).resolve_left fun L => U L.1)).1]
theorem row_eq (xs : List Nat) : Kp365.row xs = ⟨(xs.length : Nat), xs.map fun (x : Nat) => (x : Int)⟩ := rfl
theorem st_way {l : List Node} {i : Nat} (h : i < l.length) : step (some ⟨l⟩) (.way i) = (some ⟨l⟩, Kp365.row (Kp365.way ⟨l⟩ 21 i)) := by
  have e : step (some ⟨l⟩) (.way i) = Kp365.of (some ⟨l⟩) ⟨l⟩ i (Kp365.row (Kp365.way ⟨l⟩ 21 i)) := rfl
  rw [e, of_yes h]
def byC (kind i : Nat) (ps : List Nat) : Kp365.Call := if kind = 2 then .bySay i ps else .byDoubt i ps
theorem st_by_of {l : List Node} {kind i : Nat} {ps : List Nat} (hk : kind = 1 ∨ kind = 2) : step (some ⟨l⟩) (byC kind i ps) = Kp365.of (some ⟨l⟩) ⟨l⟩ i (if Kp365.okPicks ⟨l⟩ kind ps = false then say (-22) else Kp365.frRow (Kp365.by_ ⟨l⟩ kind ps i)) := by
  rcases hk with e | e <;> subst e <;> rfl
theorem st_by_no {l : List Node} {kind i : Nat} {ps : List Nat} (hk : kind = 1 ∨ kind = 2) (h : ¬ i < l.length) : step (some ⟨l⟩) (byC kind i ps) = (some ⟨l⟩, say (-2)) := by
  rw [st_by_of hk, of_no h]
theorem st_by_bad {l : List Node} {kind i : Nat} {ps : List Nat} (hk : kind = 1 ∨ kind = 2) (h : i < l.length) (b : arePicks kind l ps = false) : step (some ⟨l⟩) (byC kind i ps) = (some ⟨l⟩, say (-22)) := by
  rw [st_by_of hk, of_yes h, if_pos (by rw [okPicks_eq]; exact b)]
theorem st_by {l : List Node} (W : WF l) {kind i : Nat} {ps : List Nat} (hk : kind = 1 ∨ kind = 2) (h : i < l.length) (b : arePicks kind l ps = true) : step (some ⟨l⟩) (byC kind i ps) = (some ⟨l⟩, ⟨0, frac (hb kind ps l i)⟩) := by
  rw [st_by_of hk, of_yes h, if_neg (by rw [okPicks_eq, b]; decide), by_eq W (by rcases hk with e | e <;> omega) b h, frRow_eq]
theorem st_proof {l : List Node} (W : WF l) {i : Nat} (h : i < l.length) : step (some ⟨l⟩) (.proof i) = (some ⟨l⟩, Kp365.row (pr l i)) := by
  have e : step (some ⟨l⟩) (.proof i) = Kp365.of (some ⟨l⟩) ⟨l⟩ i (Kp365.row (Kp365.proof ⟨l⟩ i)) := rfl
  rw [e, of_yes h, proof_eq W h]
theorem st_leaves {l : List Node} (W : WF l) {i : Nat} (h : i < l.length) : step (some ⟨l⟩) (.leaves i) = (some ⟨l⟩, Kp365.row (lv l i)) := by
  have e : step (some ⟨l⟩) (.leaves i) = Kp365.of (some ⟨l⟩) ⟨l⟩ i (Kp365.row (Kp365.leaves ⟨l⟩ i)) := rfl
  rw [e, of_yes h, leaves_eq W h]
theorem st_matter {l : List Node} (W : WF l) {i : Nat} (h : i < l.length) : step (some ⟨l⟩) (.matter i) = (some ⟨l⟩, Kp365.row (mat l i)) := by
  have e : step (some ⟨l⟩) (.matter i) = Kp365.of (some ⟨l⟩) ⟨l⟩ i (Kp365.row (Kp365.matter ⟨l⟩ i)) := rfl
  rw [e, of_yes h, matter_eq W h]
theorem st_ofLeaf {l : List Node} {i j : Nat} {a : Ans} : (¬ i < l.length → Kp365.ofLeaf (some ⟨l⟩) ⟨l⟩ i j a = (some ⟨l⟩, say (-2))) ∧ (¬ j < l.length → Kp365.ofLeaf (some ⟨l⟩) ⟨l⟩ i j a = (some ⟨l⟩, say (-2))) := by
  unfold Kp365.ofLeaf
  rw [nodeB, nodeB]
  refine ⟨fun h => ?_, fun h => ?_⟩
  · rw [if_pos (.inl (decide_eq_false h))]
  · rw [if_pos (.inr (decide_eq_false h))]
theorem st_ofLeaf2 {l : List Node} (W : WF l) {i j : Nat} {a : Ans} (hi : i < l.length) (hj : j < l.length) : (¬ j ∈ lv l i → Kp365.ofLeaf (some ⟨l⟩) ⟨l⟩ i j a = (some ⟨l⟩, say (-33))) ∧ (j ∈ lv l i → Kp365.ofLeaf (some ⟨l⟩) ⟨l⟩ i j a = (some ⟨l⟩, a)) := by
  unfold Kp365.ofLeaf
  rw [nodeB, nodeB, leaves_eq W hi, if_neg (by rw [decide_eq_true hi, decide_eq_true hj]; decide)]
  refine ⟨fun h => ?_, fun h => ?_⟩
  · rw [if_pos]
    cases e : (lv l i).contains j with
    | false => rfl
    | true => exact absurd (List.contains_iff_mem.mp e) h
  · rw [if_neg]
    rw [List.contains_iff_mem.mpr h]
    decide
theorem st_ifWrong_bad {l : List Node} {i j w : Nat} (hw : ¬ w ≤ 100) : step (some ⟨l⟩) (.ifWrong i j w) = (some ⟨l⟩, say (-22)) := by
  show (if 100 < w then _ else _) = _
  exact if_pos (by omega)
theorem st_ifWrong_of {l : List Node} {i j w : Nat} (hw : w ≤ 100) : step (some ⟨l⟩) (.ifWrong i j w) = Kp365.ofLeaf (some ⟨l⟩) ⟨l⟩ i j (Kp365.frRow (Kp365.right (Kp365.withWrong ⟨l⟩ j w) i)) := by
  show (if 100 < w then _ else _) = _
  exact if_neg (by omega)
theorem st_ifWrong {l : List Node} (W : WF l) {i j w : Nat} (hw : w ≤ 100) (hi : i < l.length) (h : j ∈ lv l i) : step (some ⟨l⟩) (.ifWrong i j w) = (some ⟨l⟩, ⟨0, frac (rw_ (misr l j w) i)⟩) := by
  obtain ⟨hj, m, hm, L⟩ := lv_leaf W hi h
  rw [st_ifWrong_of hw, (st_ofLeaf2 W hi hj).2 h, misr_eq hm L, right_eq (W.mis hm hw) (by rw [misr_len hj]; exact hi), frRow_eq]
theorem st_ifFlip_of {l : List Node} {i j : Nat} : step (some ⟨l⟩) (.ifFlip i j) = Kp365.ofLeaf (some ⟨l⟩) ⟨l⟩ i j (Kp365.yes (Kp365.isTrue (Kp365.withSo ⟨l⟩ j) i)) := rfl
theorem st_ifFlip {l : List Node} (W : WF l) {i j : Nat} (hi : i < l.length) (h : j ∈ lv l i) : step (some ⟨l⟩) (.ifFlip i j) = (some ⟨l⟩, say (if tr (flipd l j) i = true then 1 else 0 : Int)) := by
  obtain ⟨hj, m, hm, L⟩ := lv_leaf W hi h
  rw [st_ifFlip_of, (st_ofLeaf2 W hi hj).2 h, flipd_eq hm L, isTrue_eq (W.flip hm L) (by rw [flipd_len hj]; exact hi)]
  rfl
theorem st_best_of {l : List Node} {i : Nat} : step (some ⟨l⟩) (.best i) = Kp365.of (some ⟨l⟩) ⟨l⟩ i (let g := (Kp365.leaves ⟨l⟩ i).foldl (fun (b : Nat × Kp340.Fr) (j : Nat) => (let r := Kp365.right (Kp365.withWrong ⟨l⟩ j 0) i; if Kp346.ltF b.2 r then (j, r) else b)) (99, Kp365.right ⟨l⟩ i); if g.1 = 99 then say (-33) else ⟨(g.1 : Int), [g.2.1, g.2.2]⟩) := rfl
theorem st_best_no {l : List Node} (W : WF l) {i : Nat} (h : i < l.length) (e : (best l i).1 = none) : step (some ⟨l⟩) (.best i) = (some ⟨l⟩, say (-33)) := by
  rw [st_best_of, of_yes h, (best_eq W h).1]
  dsimp only
  rw [e]
  rfl
theorem st_best {l : List Node} (W : WF l) {i j : Nat} (h : i < l.length) (e : (best l i).1 = some j) : step (some ⟨l⟩) (.best i) = (some ⟨l⟩, ⟨(j : Nat), frac (best l i).2⟩) := by
  rw [st_best_of, of_yes h, (best_eq W h).1]
  have hj := (best_eq W h).2 j e
  have := W.len
  dsimp only
  rw [e]
  show (_, if j = 99 then _ else _) = _
  rw [if_neg (by omega), frac_eq]
  rfl
theorem st_depth {l : List Node} (W : WF l) {i : Nat} (h : i < l.length) : step (some ⟨l⟩) (.depth i) = (some ⟨l⟩, say (dp l i : Nat)) := by
  have e : step (some ⟨l⟩) (.depth i) = Kp365.of (some ⟨l⟩) ⟨l⟩ i (say (Kp365.depth ⟨l⟩ (Kp365.NODES + 1) i : Nat)) := rfl
  rw [e, of_yes h, depth_eq W h]
theorem isKid_flat (l : List Node) (k : Nat) : isKid l k = decide (k ∈ (l.map (·.kids)).flatten) := by
  cases e : isKid l k with
  | true =>
    obtain ⟨i, n, hi, hk⟩ := isKid_iff.mp e
    exact (decide_eq_true (List.mem_flatten.mpr ⟨n.kids, List.mem_map.mpr ⟨n, List.mem_of_getElem? hi, rfl⟩, hk⟩)).symm
  | false =>
    refine (decide_eq_false fun z => ?_).symm
    obtain ⟨ks, h1, h2⟩ := List.mem_flatten.mp z
    obtain ⟨n, hn, rfl⟩ := List.mem_map.mp h1
    obtain ⟨i, hi⟩ := List.getElem?_of_mem hn
    rw [isKid_iff.mpr ⟨i, n, hi, h2⟩] at e
    cases e
theorem kids_80 {l : List Node} (W : WF l) : (l.map (·.kids)).flatten.length ≤ 80 := by
  have key : ∀ r : List Node, (∀ n ∈ r, n.kids.length ≤ 4) → (r.map (·.kids)).flatten.length ≤ 4 * r.length := by
    intro r
    induction r with
    | nil => intro _; exact Nat.zero_le _
    | cons n r ih =>
      intro h
      have a := h n (List.mem_cons_self ..)
      have b := ih fun x hx => h x (List.mem_cons_of_mem _ hx)
      rw [List.map_cons, List.flatten_cons, List.length_append, List.length_cons]
      omega
  have := key l fun n hn => by
    obtain ⟨i, hi⟩ := List.getElem?_of_mem hn
    exact W.kids4 hi
  have := W.len
  omega
end Dis
end
section
set_option linter.unusedVariables false
/-! # How calls are told -/
namespace Dis
open Kp365 (Node)
abbrev zs (ks : List Nat) : List Int := ks.map fun k => ((k : Nat) : Int)
/-- a call as it may be asked -/
inductive Shape : Int → List Int → Kp365.Call → Prop
  | begin_ : Shape 0 [] .begin_
  | leaf (a b : Nat) : Shape 1 (zs [a, b]) (.leaf a b)
  | all_ (row : List Nat) : row.length ≤ 6 → Shape 2 (zs row) (.all_ row)
  | some_ (row : List Nat) : row.length ≤ 6 → Shape 3 (zs row) (.some_ row)
  | pop : Shape 4 [] .pop
  | nodeIs (i : Nat) : Shape 5 (zs [i]) (.nodeIs i)
  | flip (i : Nat) : Shape 6 (zs [i]) (.flip i)
  | wrong (i j : Nat) : Shape 7 (zs [i, j]) (.wrong i j)
  | true_ (i : Nat) : Shape 8 (zs [i]) (.true_ i)
  | held (i : Nat) : Shape 9 (zs [i]) (.held i)
  | right (i : Nat) : Shape 10 (zs [i]) (.right i)
  | pick (i : Nat) : Shape 11 (zs [i]) (.pick i)
  | way (i : Nat) : Shape 12 (zs [i]) (.way i)
  | bySay (i : Nat) (ps : List Nat) : Shape 13 (zs (i :: ps)) (.bySay i ps)
  | byDoubt (i : Nat) (ps : List Nat) : Shape 14 (zs (i :: ps)) (.byDoubt i ps)
  | proof (i : Nat) : Shape 15 (zs [i]) (.proof i)
  | leaves (i : Nat) : Shape 16 (zs [i]) (.leaves i)
  | matter (i : Nat) : Shape 17 (zs [i]) (.matter i)
  | ifWrong (i j m : Nat) : Shape 18 (zs [i, j, m]) (.ifWrong i j m)
  | ifFlip (i j : Nat) : Shape 19 (zs [i, j]) (.ifFlip i j)
  | best (i : Nat) : Shape 20 (zs [i]) (.best i)
  | depth (i : Nat) : Shape 21 (zs [i]) (.depth i)
theorem nat_of {a : Int} (h : Kp365Neutral.natural a = true) : ∃ k : Nat, a = (k : Nat) := by
  unfold Kp365Neutral.natural at h
  rw [Bool.and_eq_true, decide_eq_true_iff] at h
  exact ⟨a.toNat, by omega⟩
theorem nats_of : ∀ {l : List Int}, l.all Kp365Neutral.natural = true → ∃ ks : List Nat, l = zs ks
  | [], _ => ⟨[], rfl⟩
  | a :: r, h => by
    rw [List.all_cons, Bool.and_eq_true] at h
    obtain ⟨k, rfl⟩ := nat_of h.1
    obtain ⟨ks, rfl⟩ := nats_of h.2
    exact ⟨k :: ks, rfl⟩
theorem zs_toNat (ks : List Nat) : (zs ks).map Int.toNat = ks := by
  unfold zs
  rw [List.map_map]
  have : (Int.toNat ∘ fun k : Nat => ((k : Nat) : Int)) = id := by
    funext k
    rfl
  rw [this, List.map_id]
theorem and2 {a b : Bool} (h : (a && b) = true) : a = true ∧ b = true := Bool.and_eq_true_iff.mp h
theorem shape_of (p : Int) (args : List Int) (h : Kp365Neutral.asked1 [p :: args] = true) : ∃ c, Kp365Neutral.callOf [p :: args] = some c ∧ Shape p args c := by
  unfold Kp365Neutral.asked1 at h
  have one : ∀ {q a : Int}, [p :: args] = [[q, a]] → p = q ∧ args = [a] := fun e => by
    injection e with e1 _
    injection e1 with e2 e3
    exact ⟨e2, e3⟩
  split at h
  all_goals rename_i e
  case h_1 => injection e with e1 _; injection e1 with e2 e3; subst e2 e3; exact ⟨_, rfl, .begin_⟩
  case h_2 =>
    injection e with e1 _; injection e1 with e2 e3; subst e2 e3
    obtain ⟨a, rfl⟩ := nat_of (and2 h).1
    obtain ⟨b, rfl⟩ := nat_of (and2 h).2
    exact ⟨_, rfl, .leaf a b⟩
  case h_3 =>
    injection e with e1 _; injection e1 with e2 e3; subst e2 e3
    obtain ⟨ks, rfl⟩ := nats_of (and2 h).1
    have hl := of_decide_eq_true (and2 h).2
    refine ⟨.all_ ks, ?_, .all_ ks (by rw [List.length_map] at hl; exact hl)⟩
    show some (Kp365.Call.all_ ((zs ks).map Int.toNat)) = _
    rw [zs_toNat]
  case h_4 =>
    injection e with e1 _; injection e1 with e2 e3; subst e2 e3
    obtain ⟨ks, rfl⟩ := nats_of (and2 h).1
    have hl := of_decide_eq_true (and2 h).2
    refine ⟨.some_ ks, ?_, .some_ ks (by rw [List.length_map] at hl; exact hl)⟩
    show some (Kp365.Call.some_ ((zs ks).map Int.toNat)) = _
    rw [zs_toNat]
  case h_5 => injection e with e1 _; injection e1 with e2 e3; subst e2 e3; exact ⟨_, rfl, .pop⟩
  case h_6 => obtain ⟨rfl, rfl⟩ := one e; obtain ⟨i, rfl⟩ := nat_of h; exact ⟨_, rfl, .nodeIs i⟩
  case h_7 => obtain ⟨rfl, rfl⟩ := one e; obtain ⟨i, rfl⟩ := nat_of h; exact ⟨_, rfl, .flip i⟩
  case h_8 =>
    injection e with e1 _; injection e1 with e2 e3; subst e2 e3
    obtain ⟨a, rfl⟩ := nat_of (and2 h).1
    obtain ⟨b, rfl⟩ := nat_of (and2 h).2
    exact ⟨_, rfl, .wrong a b⟩
  case h_9 => obtain ⟨rfl, rfl⟩ := one e; obtain ⟨i, rfl⟩ := nat_of h; exact ⟨_, rfl, .true_ i⟩
  case h_10 => obtain ⟨rfl, rfl⟩ := one e; obtain ⟨i, rfl⟩ := nat_of h; exact ⟨_, rfl, .held i⟩
  case h_11 => obtain ⟨rfl, rfl⟩ := one e; obtain ⟨i, rfl⟩ := nat_of h; exact ⟨_, rfl, .right i⟩
  case h_12 => obtain ⟨rfl, rfl⟩ := one e; obtain ⟨i, rfl⟩ := nat_of h; exact ⟨_, rfl, .pick i⟩
  case h_13 => obtain ⟨rfl, rfl⟩ := one e; obtain ⟨i, rfl⟩ := nat_of h; exact ⟨_, rfl, .way i⟩
  case h_14 =>
    injection e with e1 _; injection e1 with e2 e3; subst e2 e3
    obtain ⟨i, rfl⟩ := nat_of (and2 h).1
    obtain ⟨ks, rfl⟩ := nats_of (and2 (and2 h).2).1
    refine ⟨.bySay i ks, ?_, .bySay i ks⟩
    show some (Kp365.Call.bySay i ((zs ks).map Int.toNat)) = _
    rw [zs_toNat]
  case h_15 =>
    injection e with e1 _; injection e1 with e2 e3; subst e2 e3
    obtain ⟨i, rfl⟩ := nat_of (and2 h).1
    obtain ⟨ks, rfl⟩ := nats_of (and2 (and2 h).2).1
    refine ⟨.byDoubt i ks, ?_, .byDoubt i ks⟩
    show some (Kp365.Call.byDoubt i ((zs ks).map Int.toNat)) = _
    rw [zs_toNat]
  case h_16 => obtain ⟨rfl, rfl⟩ := one e; obtain ⟨i, rfl⟩ := nat_of h; exact ⟨_, rfl, .proof i⟩
  case h_17 => obtain ⟨rfl, rfl⟩ := one e; obtain ⟨i, rfl⟩ := nat_of h; exact ⟨_, rfl, .leaves i⟩
  case h_18 => obtain ⟨rfl, rfl⟩ := one e; obtain ⟨i, rfl⟩ := nat_of h; exact ⟨_, rfl, .matter i⟩
  case h_19 =>
    injection e with e1 _; injection e1 with e2 e3; subst e2 e3
    obtain ⟨a, rfl⟩ := nat_of (and2 h).1
    obtain ⟨b, rfl⟩ := nat_of (and2 (and2 h).2).1
    obtain ⟨c, rfl⟩ := nat_of (and2 (and2 h).2).2
    exact ⟨_, rfl, .ifWrong a b c⟩
  case h_20 =>
    injection e with e1 _; injection e1 with e2 e3; subst e2 e3
    obtain ⟨a, rfl⟩ := nat_of (and2 h).1
    obtain ⟨b, rfl⟩ := nat_of (and2 h).2
    exact ⟨_, rfl, .ifFlip a b⟩
  case h_21 => obtain ⟨rfl, rfl⟩ := one e; obtain ⟨i, rfl⟩ := nat_of h; exact ⟨_, rfl, .best i⟩
  case h_22 => obtain ⟨rfl, rfl⟩ := one e; obtain ⟨i, rfl⟩ := nat_of h; exact ⟨_, rfl, .depth i⟩
  case h_23 => cases h
theorem asked1_one {p : Int} {args : List Int} {xs : List (List Int)} (h : Kp365Neutral.asked1 ((p :: args) :: xs) = true) : xs = [] := by
  unfold Kp365Neutral.asked1 at h
  split at h
  all_goals rename_i e
  all_goals first
    | (injection e with e1 e2; done)
    | cases h
theorem rows_len : ∀ (k : Nat) (r : List Int) (xs : List (List Int)) (s : List Int), PyFlat.rows k r = some (xs, s) → xs.length = k
  | 0, r, xs, s, h => by
    cases h
    rfl
  | k + 1, r, xs, s, h => by
    unfold PyFlat.rows at h
    split at h
    · cases h
    · rename_i x s' e
      split at h
      · cases h
      · rename_i ys t e2
        cases h
        rw [List.length_cons, rows_len k _ _ _ e2]
/-- the next call of what is still to be read -/
theorem calls_next {f : Nat} {l : List Int} {cs : List (List (List Int))} (h : PyWide.calls f l = some cs) (ne : l ≠ []) (ok : cs.all Kp365Neutral.asked1 = true) :
    ∃ (f' : Nat) (p : Int) (args : List Int) (k : Int) (t : List Int) (cs' : List (List (List Int))), l = p :: ((args.length : Nat) : Int) :: (args ++ k :: t) ∧ cs = [p :: args] :: cs' ∧ PyWide.calls f' t = some cs' ∧ Kp365Neutral.asked1 [p :: args] = true ∧ cs'.all Kp365Neutral.asked1 = true := by
  cases l with
  | nil => exact absurd rfl ne
  | cons p r =>
    cases f with
    | zero => cases h
    | succ f =>
      unfold PyWide.calls at h
      split at h
      · cases h
      · rename_i c t e
        split at h
        · cases h
        · rename_i cs' e2
          cases h
          rw [List.all_cons, Bool.and_eq_true] at ok
          have e : (match PyFlat.row r with
            | none => none
            | some (_, []) => none
            | some (ns, k :: t) => if 0 ≤ k then (match PyFlat.rows k.toNat t with
              | none => none
              | some (xs, u) => some ((p :: ns) :: xs, u)) else none) = some (c, t) := e
          split at e
          · cases e
          · cases e
          · rename_i args k t' er
            split at e
            · rename_i hk
              split at e
              · cases e
              · rename_i xs u e3
                cases e
                have hx := asked1_one ok.1
                have hl := rows_len _ _ _ _ e3
                rw [hx] at hl
                have k0 : k.toNat = 0 := hl.symm
                rw [k0] at e3
                cases e3
                unfold PyFlat.row at er
                split at er
                · cases er
                · rename_i n r'
                  split at er
                  · rename_i hn
                    injection er with er
                    injection er with e4 e5
                    subst e4
                    refine ⟨f, p, r'.take n.toNat, k, t, cs', ?_, rfl, e2, ok.1, ok.2⟩
                    have hlen : (r'.take n.toNat).length = n.toNat := by
                      rw [List.length_take]
                      omega
                    rw [hlen, ← e5, List.take_append_drop]
                    have : n = ((n.toNat : Nat) : Int) := by omega
                    rw [← this]
                  · cases er
            · cases e
theorem told_app (a b : List (List Int)) : PyFlat.told (a ++ b) = PyFlat.told a ++ PyFlat.told b := by
  unfold PyFlat.told
  rw [List.flatMap_append]
theorem told_one (a : List Int) : PyFlat.told [a] = ((a.length : Nat) : Int) :: a := by
  unfold PyFlat.told
  simp
theorem told_len {l : List (List Int)} (h : ∀ a ∈ l, a.length ≤ 22) : (PyFlat.told l).length ≤ 23 * l.length := by
  induction l with
  | nil => exact Nat.le_refl _
  | cons a r ih =>
    have h1 := h a (List.mem_cons_self ..)
    have h2 := ih fun x hx => h x (List.mem_cons_of_mem _ hx)
    have e : PyFlat.told (a :: r) = (((a.length : Nat) : Int) :: a) ++ PyFlat.told r := by
      have := told_app [a] r
      rw [told_one] at this
      exact this
    rw [e, List.length_append, List.length_cons, List.length_cons]
    omega
theorem step_of {s : Kp365.State} {p : Int} {args : List Int} {c : Kp365.Call} (h : Kp365Neutral.callOf [p :: args] = some c) : Kp365Neutral.step s [p :: args] = ((Kp365.step s c).1, (Kp365.step s c).2.num :: (Kp365.step s c).2.nums) := by
  unfold Kp365Neutral.step
  rw [h]
end Dis
end
section
set_option linter.all false
set_option maxRecDepth 100000
set_option maxHeartbeats 2000000
/-! # Own rules over the hand layer: a def or method by its promise alone; a local def called in a try; the table of deeds; xs != []; len(set(xs)); for over enumerate; a comprehension over zip -/
namespace Dis
open PySem PySem.Spec PyProof.Rows L2
/-- a def of the module that keeps a promise -/
def GOk (P : Program) (w : World) (K : PySem.W.Frag) (mg : Str → Option Value) (base : Heap) (CX : CXT) (k : Nat) (x : Str) (ps : List Str) (sp : Sp) : Prop :=
  ∃ (f : Addr) (fd : FuncData), mg x = some (.ref f) ∧ PySem.W.keepIn K (.ref f) = true ∧ Binds K fd ps [] ∧ FnOk P w K mg base CX k f fd ps sp
/-- a method of the class at C that keeps a promise -/
def MOk (P : Program) (w : World) (K : PySem.W.Frag) (mg : Str → Option Value) (base : Heap) (CX : CXT) (k : Nat) (C : Addr) (m : Str) (ps : List Str) (sp : Sp) : Prop :=
  ∃ (f : Addr) (fd : FuncData), Meth K C m f ∧ Binds K fd ps [] ∧ FnOk P w K mg base CX k f fd ps sp
/-- a class of the module whose __init__ keeps a promise -/
def COk (P : Program) (w : World) (K : PySem.W.Frag) (mg : Str → Option Value) (base : Heap) (CX : CXT) (k : Nat) (x : Str) (C : Addr) (ps : List Str) (sp : Sp) : Prop :=
  ∃ (f : Addr) (fd : FuncData), mg x = some (.ref C) ∧ Mk K C f ∧ Binds K fd ps [] ∧ FnOk P w K mg base CX k f fd ps sp
def tCallG (sp : Sp) (E : XK) (t : TA) : TE := fun σ H Q => t σ H fun vs H1 => sp vs H1 Q E
def tCallGS (sp : Sp) (E : L2.St → XK) (t : TA) : TE := fun σ H Q => t σ H fun vs H1 => sp vs H1 Q (E σ)
def tMethG (C : Addr) (m : Str) (sp : Sp) (E : XK) (ta : TE) (t : TA) : TE := fun σ H Q => ta σ H fun x H1 => ∃ a dx fs, x = .ref a ∧ H1 a = some (.ins C dx fs) ∧ fs.lookup m = none ∧ t σ H1 fun vs H2 => sp (x :: vs) H2 Q E
def tMakeG (C : Addr) (sp : Sp) (E : XK) (t : TA) : TE := fun σ H Q => t σ H fun vs H1 => ∀ x dx, H1 x = none → H1 dx = none → dx ≠ x →
  sp (.ref x :: vs) (upd (upd H1 dx (.own x)) x (.ins C dx [])) (fun v H2 => v = .non ∧ Q (.ref x) H2) E
/-- a local that holds one of several defs, called in a try -/
def tCallLS (i : Nat) (S : Addr → Option Sp) (E : L2.St → XK) (t : TA) : TE := fun σ H Q => ∃ f sp, σ[i]? = some (some (.ref f)) ∧ S f = some sp ∧ t σ H fun vs H1 => sp vs H1 Q (E σ)
section
variable {X : Cx} {CX : CXT} {k : Nat} {C : Addr} {ps : List Str} {sp : Sp} {E : XK} {x m : Str} {p pos apos : Pos} {e o : Expr} {es : List Expr} {ta : TE} {t : TA}
theorem app_nil (sp : Sp) (Q : VK) (E : XK) : (fun (vs : List V) (H1 : Hp) => sp (vs ++ []) H1 Q E) = fun vs H1 => sp vs H1 Q E := by
  funext vs H1
  rw [List.append_nil]
theorem pe_callG (G : GOk X.prog X.w X.K X.mg X.base CX k x ps sp) (hr : Room k X.A) (hg : Gl X x) (hx : Passes CX X E) (ha : PA X (e :: es) t)
    (hdb : (x == ("__debug__" : Str)) = false := by decide) (he : starEach (e :: es) X.env = (false, eval e X.env) :: starEach es X.env := by rfl) (hpl : (backTo pos (starEach es X.env)).any (·.1) = false := by rfl) :
    PE X (.Call (.Name x p) (e :: es) [] pos) (tCallG sp E t) := by
  obtain ⟨f, fd, hm, hk, hb, F⟩ := G
  refine ⟨fun pins s σ H Q I h => ?_⟩
  refine (pe_call F hr hg hm hk hb .nil hx ha hdb he hpl).run pins s σ H Q I ?_
  show t σ H (fun vs H1 => sp (vs ++ []) H1 Q E)
  rw [app_nil]
  exact h
theorem pe_callGS {E : L2.St → XK} (G : GOk X.prog X.w X.K X.mg X.base CX k x ps sp) (hr : Room k X.A) (hg : Gl X x) (hx : ∀ σ, PassesAt CX X σ (E σ)) (ha : PA X (e :: es) t)
    (hdb : (x == ("__debug__" : Str)) = false := by decide) (he : starEach (e :: es) X.env = (false, eval e X.env) :: starEach es X.env := by rfl) (hpl : (backTo pos (starEach es X.env)).any (·.1) = false := by rfl) :
    PE X (.Call (.Name x p) (e :: es) [] pos) (tCallGS sp E t) := by
  obtain ⟨f, fd, hm, hk, hb, F⟩ := G
  exact pe_callS F hr hg hm hk hb hx ha hdb he hpl
theorem pe_methG {pl : Sem Bool} (G : MOk X.prog X.w X.K X.mg X.base CX k C m ps sp) (c : Cls X.K C) (hr : Room k X.A) (hx : Passes CX X E) (he : PE X o ta) (ha : PA X (e :: es) t)
    (hst : starEach (e :: es) X.env = (false, eval e X.env) :: starEach es X.env := by rfl) (hpl : (backTo pos (starEach es X.env)).any (·.1) = false := by rfl)
    (ht : eval (.Call (.Attribute o m apos) (e :: es) [] pos) X.env = (do
      let ov ← eval o X.env
      standAt apos.atName
      let (f, first) ← holding [ov] (getMethod ov m pl)
      callWith pos f first (backTo pos (starEach (e :: es) X.env)) (backToKw pos (keywordEach [] X.env))) := by rfl) :
    PE X (.Call (.Attribute o m apos) (e :: es) [] pos) (tMethG C m sp E ta t) := by
  obtain ⟨f, fd, hm, hb, F⟩ := G
  refine ⟨fun pins s σ H Q I h => ?_⟩
  refine (pe_meth he c hm F hr hb .nil hx ha hst hpl ht).run pins s σ H Q I ?_
  have e1 : ∀ y : V, (fun (vs : List V) (H1 : Hp) => sp (y :: (vs ++ [])) H1 Q E) = fun vs H1 => sp (y :: vs) H1 Q E := fun y => by
    funext vs H1
    rw [List.append_nil]
  show ta σ H (fun x H1 => ∃ a dx fs, x = .ref a ∧ H1 a = some (.ins C dx fs) ∧ fs.lookup m = none ∧ t σ H1 fun vs H2 => sp (x :: (vs ++ [])) H2 Q E)
  have e2 : (fun (x : V) (H1 : Hp) => ∃ a dx fs, x = .ref a ∧ H1 a = some (.ins C dx fs) ∧ fs.lookup m = none ∧ t σ H1 fun vs H2 => sp (x :: (vs ++ [])) H2 Q E) = fun x H1 => ∃ a dx fs, x = .ref a ∧ H1 a = some (.ins C dx fs) ∧ fs.lookup m = none ∧ t σ H1 fun vs H2 => sp (x :: vs) H2 Q E := by
    funext x H1
    rw [e1 x]
  rw [e2]
  exact h
theorem pe_methG0 {pl : Sem Bool} (G : MOk X.prog X.w X.K X.mg X.base CX k C m ps sp) (c : Cls X.K C) (hr : Room k X.A) (hx : Passes CX X E) (he : PE X o ta)
    (ht : eval (.Call (.Attribute o m apos) [] [] pos) X.env = (do
      let ov ← eval o X.env
      standAt apos.atName
      let (f, first) ← holding [ov] (getMethod ov m pl)
      callWith pos f first (backTo pos (starEach [] X.env)) (backToKw pos (keywordEach [] X.env))) := by rfl) :
    PE X (.Call (.Attribute o m apos) [] [] pos) (tMethG C m sp E ta tNil) := by
  obtain ⟨f, fd, hm, hb, F⟩ := G
  exact pe_meth0 he c hm F hr hb .nil hx ht
theorem pe_makeG (G : COk X.prog X.w X.K X.mg X.base CX k x C ps sp) (hr : Room (k + 1) X.A) (hg : Gl X x) (hx : Passes CX X E) (ha : PA X (e :: es) t)
    (hdb : (x == ("__debug__" : Str)) = false := by decide) (he : starEach (e :: es) X.env = (false, eval e X.env) :: starEach es X.env := by rfl) (hpl : (backTo pos (starEach es X.env)).any (·.1) = false := by rfl) :
    PE X (.Call (.Name x p) (e :: es) [] pos) (tMakeG C sp E t) := by
  obtain ⟨f, fd, hm, M, hb, F⟩ := G
  refine ⟨fun pins s σ H Q I h => ?_⟩
  refine (pe_make M F hr hg hm hb .nil hx ha hdb he hpl).run pins s σ H Q I ?_
  have e2 : (fun (vs : List V) (H1 : Hp) => ∀ x dx, H1 x = none → H1 dx = none → dx ≠ x → sp (.ref x :: (vs ++ [])) (upd (upd H1 dx (.own x)) x (.ins C dx [])) (fun v H2 => v = .non ∧ Q (.ref x) H2) E) =
      fun vs H1 => ∀ x dx, H1 x = none → H1 dx = none → dx ≠ x → sp (.ref x :: vs) (upd (upd H1 dx (.own x)) x (.ins C dx [])) (fun v H2 => v = .non ∧ Q (.ref x) H2) E := by
    funext vs H1
    rw [List.append_nil]
  show t σ H (fun vs H1 => ∀ x dx, H1 x = none → H1 dx = none → dx ≠ x → sp (.ref x :: (vs ++ [])) (upd (upd H1 dx (.own x)) x (.ins C dx [])) (fun v H2 => v = .non ∧ Q (.ref x) H2) E)
  rw [e2]
  exact h
theorem pe_makeG0 (G : COk X.prog X.w X.K X.mg X.base CX k x C ps sp) (hr : Room (k + 1) X.A) (hg : Gl X x) (hx : Passes CX X E)
    (hdb : (x == ("__debug__" : Str)) = false := by decide) : PE X (.Call (.Name x p) [] [] pos) (tMakeG C sp E tNil) := by
  obtain ⟨f, fd, hm, M, hb, F⟩ := G
  exact pe_make0 M F hr hg hm hb .nil hx hdb
/-- what is known of a def that a local may hold: it may raise -/
structure HeldX (P : Program) (w : World) (K : PySem.W.Frag) (mg : Str → Option Value) (base : Heap) (k : Nat) (f : Addr) (sp : Sp) : Prop where
  ex : ∃ (fd : FuncData) (ps : List Str), FnOk P w K mg base (L2.CX P w) k f fd ps sp ∧ PySem.W.keepIn K (.ref f) = true ∧ Binds K fd ps []
theorem pe_callLS {i : Nat} {S : Addr → Option Sp} {E : L2.St → XK} (A : ∀ f sp, S f = some sp → HeldX X.prog X.w X.K X.mg X.base k f sp) (hr : Room k X.A) (hN : X.N[i]? = some x) (hv : Vis X.env.scope x) (hx : ∀ σ, PassesAt (L2.CX X.prog X.w) X σ (E σ)) (ha : PA X (e :: es) t)
    (hdb : (x == ("__debug__" : Str)) = false := by decide) (hcd : (x == ("__classdict__" : Str)) = false := by decide)
    (he : starEach (e :: es) X.env = (false, eval e X.env) :: starEach es X.env := by rfl) (hpl : (backTo pos (starEach es X.env)).any (·.1) = false := by rfl) : PE X (.Call (.Name x p) (e :: es) [] pos) (tCallLS i S E t) := by
  refine ⟨fun pins s σ H Q I h => ?_⟩
  obtain ⟨f, sp, hs, hS, ht⟩ := h
  obtain ⟨fd, ps, F, hk, hb⟩ := (A f sp hS).ex
  refine wpAny_Call_Name_kw (thn ((pe_var (pos := p) hN hv hdb hcd).run pins s σ H (fun v H1 => v = .ref f ∧ H1 = H) I ⟨.ref f, hs, rfl, rfl⟩) fun u s1 ⟨v, H1, I1, r1, q1⟩ => ?_)
  obtain ⟨rfl, rfl⟩ := q1
  cases r1
  refine PySem.W.callWith_K (h₀ := X.base) I.ok.mod.kin hk (thn (ha.run pos pins s1 σ _ _ I1 ht) fun us s2 ⟨vs, H2, I2, r, q⟩ => ⟨I2.kIn, ?_⟩) he hpl
  exact run_fnS F hr hb (hx σ) I2 r q
end
/-! ### a written dict with whole-number keys -/
def DInt (K : PySem.W.Frag) (a : Addr) (k : Int) (v : V) : Prop :=
  ∃ es n u, K.lookup a = some ⟨.type "dict", none, .dict es n, #[]⟩ ∧ (∀ e ∈ es, ∃ (k : Int) (t : Tok), e.key = .int k t ∧ e.hash = hashInt k) ∧ findBy Value.isInt es k = some u ∧ RelV v u
def rIxI (K : PySem.W.Frag) : R2 := fun x y H Q => ∃ p k v, x = .ref p ∧ y = .int k ∧ DInt K p k v ∧ Q v H
theorem ix_dint {X : Cx} : IxR X (rIxI X.K) := by
  intro value slice pins s σ H x y v u Q I rx ry h hs
  obtain ⟨p, k, r, rfl, rfl, ⟨es, n, u0, hl, hk, e, ru⟩, q⟩ := h
  obtain rfl : v = Value.ref p := rx
  obtain ⟨t, rfl⟩ := ry
  have ho := I.kIn _ _ hl
  have hm : s.heap.MapOf (intKind X.prog X.w) p (fun k => findBy Value.isInt es k) :=
    ⟨_, es, n, ho, ⟨rfl, rfl, rfl⟩, rfl, fun e he => by
      obtain ⟨k, t, e1, e2⟩ := hk e he
      exact ⟨k, by rw [e1]; exact intKind_is X.prog X.w k t, e2⟩, fun _ => rfl⟩
  exact tail_any hm.typeIs slot_dict_getitem.lookup (wpAny_getItem_of (intKind_is X.prog X.w k t) hm e ⟨r, H, I.tok _, ru, q⟩) hs
/-! ### xs != [] -/
def rNeNil (K : PySem.W.Frag) : R2 := fun x y H Q => ∃ a b xs, x = .ref a ∧ y = .ref b ∧ SqL K H a xs ∧ SqL K H b [] ∧ Q (.bl (!xs.isEmpty)) H
theorem op_neNil {X : Cx} (hu : X.A.units < cLine) : OpR X (compareOp .NotEq) (rNeNil X.K) := by
  intro pins s σ H x y v u Q I rx ry h
  obtain ⟨a, b, xs, rfl, rfl, h1, h2, q⟩ := h
  obtain rfl : v = Value.ref a := rx
  obtain rfl : u = Value.ref b := ry
  obtain ⟨its, r1, p1, _⟩ := I.list h1
  obtain ⟨its2, r2, p2, _⟩ := I.list h2
  cases r2
  cases r1 with
  | nil =>
    refine SeqAt.RcNeAt.lists (e := fun _ => true) p1.isList p2.isList rfl hu (fun j h1 _ => absurd h1 (by simp)) X.prog X.w _ _ ?_
    exact ⟨.bl false, H, I, rfl, q⟩
  | cons r rr =>
    refine SeqAt.RcNeAt.lists_lengths p1.isList p2.isList (by simp) hu X.prog X.w _ _ ?_
    exact ⟨.bl true, H, I, rfl, q⟩
/-! ### len(set(xs)) -/
theorem firstMet_iff {ns : List Int} : ∀ i, i ≤ ns.length → (PyProof.Rows.firstMet (fun i => ns.getD i 0) i).length ≤ i ∧ (∀ x, x ∈ PyProof.Rows.firstMet (fun i => ns.getD i 0) i ↔ x ∈ ns.take i) ∧
    ((PyProof.Rows.firstMet (fun i => ns.getD i 0) i).length = i ↔ (ns.take i).Nodup)
  | 0, _ => ⟨Nat.le_refl _, fun x => by simp [PyProof.Rows.firstMet], by simp [PyProof.Rows.firstMet]⟩
  | i + 1, hi => by
    obtain ⟨q1, q2, q3⟩ := firstMet_iff (ns := ns) i (Nat.le_of_lt hi)
    have hlt : i < ns.length := hi
    have e1 : ns.getD i 0 = ns[i] := by
      rw [List.getD_eq_getElem?_getD, List.getElem?_eq_getElem hlt] <;> rfl
    have e2 : ns.take (i + 1) = ns.take i ++ [ns[i]] := by
      rw [List.take_add_one, List.getElem?_eq_getElem hlt] <;> rfl
    rw [PyProof.Rows.firstMet_succ, e2]
    show (if (PyProof.Rows.firstMet (fun i => ns.getD i 0) i).any (· == ns.getD i 0) then _ else PyProof.Rows.firstMet (fun i => ns.getD i 0) i ++ [ns.getD i 0]).length ≤ i + 1 ∧
      (∀ x, x ∈ (if (PyProof.Rows.firstMet (fun i => ns.getD i 0) i).any (· == ns.getD i 0) then PyProof.Rows.firstMet (fun i => ns.getD i 0) i else PyProof.Rows.firstMet (fun i => ns.getD i 0) i ++ [ns.getD i 0]) ↔ x ∈ ns.take i ++ [ns[i]]) ∧
      ((if (PyProof.Rows.firstMet (fun i => ns.getD i 0) i).any (· == ns.getD i 0) then PyProof.Rows.firstMet (fun i => ns.getD i 0) i else PyProof.Rows.firstMet (fun i => ns.getD i 0) i ++ [ns.getD i 0]).length = i + 1 ↔ (ns.take i ++ [ns[i]]).Nodup)
    rw [e1]
    generalize PyProof.Rows.firstMet (fun i => ns.getD i 0) i = F at q1 q2 q3
    by_cases hm : ns[i] ∈ F
    · have hb : (F.any (· == ns[i])) = true := List.any_eq_true.mpr ⟨_, hm, beq_self_eq_true _⟩
      rw [if_pos hb]
      refine ⟨Nat.le_succ_of_le q1, fun x => ?_, ?_⟩
      · rw [List.mem_append, List.mem_singleton, q2]
        constructor
        · exact .inl
        · rintro (h | h)
          · exact h
          · rw [h]
            exact (q2 _).mp hm
      · constructor
        · intro z
          omega
        · intro z
          rw [List.nodup_append] at z
          exact absurd rfl (z.2.2 _ ((q2 _).mp hm) _ (List.mem_singleton.mpr rfl))
    · have hb : ¬ (F.any (· == ns[i])) = true := fun z => by
        obtain ⟨y, hy, ey⟩ := List.any_eq_true.mp z
        rw [eq_of_beq ey] at hy
        exact hm hy
      rw [if_neg hb]
      refine ⟨by rw [List.length_append]; simp; exact q1, fun x => ?_, ?_⟩
      · rw [List.mem_append, List.mem_append, q2]
      · rw [List.length_append, List.nodup_append]
        show F.length + 1 = i + 1 ↔ _
        constructor
        · intro z
          refine ⟨q3.mp (by omega), by simp, fun a ha b hb e => ?_⟩
          rw [List.mem_singleton] at hb
          rw [e, hb] at ha
          exact hm ((q2 _).mpr ha)
        · rintro ⟨z, _, _⟩
          have := q3.mpr z
          omega
def tLenSetA (K : PySem.W.Frag) (ta : TE) : TE := fun σ H Q => ta σ H fun x H1 => ∃ (l : Addr) (ns : List Int), x = .ref l ∧ SqL K H1 l (ns.map V.int) ∧ ns.length ≤ 4000 ∧ ∀ m : Nat, (m = ns.length ↔ ns.Nodup) → Q (.int (m : Nat)) H1
theorem pe_lenSetA {X : Cx} {a : Expr} {ta : TE} {p p2 q pos : Pos} (hg : Gl X "len") (hm : X.mg "len" = none) (hg2 : Gl X "set") (hm2 : X.mg "set" = none) (ha : PE X a ta) (hc : X.calm = true := by rfl)
    (na : starEach [a] X.env = (false, eval a X.env) :: starEach [] X.env := by rfl) : PE X (.Call (.Name "len" p) [.Call (.Name "set" p2) [a] [] q] [] pos) (tLenSetA X.K ta) := by
  refine ⟨fun pins s σ H Q I h => ?_⟩
  refine Call_ (ld_blt I hg hm boot_len ?_)
  refine PyProof.Rows.callWith_builtin1 (PyProof.Rows.args_cons ?_ rfl) rfl rfl
  refine Call_ (ld_blt I hg2 hm2 boot_set ?_)
  refine PyProof.Rows.callWith_type1 (PyProof.Rows.args_cons (thn (ha.run pins s σ H _ I h) fun v s1 ⟨x, H1, I1, r1, q1⟩ => PyProof.Rows.args_nil ?_) na) na rfl
  obtain ⟨l, ns, rfl, hq, hl, q1⟩ := q1
  cases r1
  obtain ⟨its, r, pl, hz⟩ := I1.list hq
  have hlen : its.toArray.size = ns.length := by rw [List.size_toArray, ← r.length, List.length_map]
  refine call_set_list (I1.ok.hd hc) pl.isList (by simpa using RZ.intsAre_vals r) (by rw [hlen]; unfold scanBound; omega) fun h' tk hS hk => ?_
  refine PyProof.Rows.args_nil ?_
  obtain ⟨f1, _, f3⟩ := firstMet_iff (ns := ns) ns.length (Nat.le_refl _)
  rw [List.take_length] at f3
  rw [hlen] at hS
  obtain ⟨o, es, ep, t, ho, hex, hd, _, _, _, hf, hn⟩ := hS
  have I2 : Inv X pins σ H1 { s1 with heap := h', toks := tk } := I1.kept fun b o e => hk b o (Heap.lt_size e) e
  exact call_len_set ho hex hd hf (by rw [hn] <;> omega) ⟨.int (PyProof.Rows.firstMet (fun i => ns.getD i 0) ns.length).length, H1, I2.tok _, ⟨_, by rw [hn]⟩, q1 _ f3⟩
/-! ### for over enumerate -/
theorem for_enum {K : PySem.W.Frag} {a : Addr} {xs : List V} {g : TG} {tb : TS} {D : Ends} {σ : L2.St} {H : Hp} (Pv : Nat → L2.St → Hp → Prop) (h0 : Pv 0 σ H) (hl : ∀ i σ H, Pv i σ H → SqL K H a xs)
    (hs : ∀ (i : Nat) (x : V) (T : Addr) (σ : L2.St) (H : Hp), xs[i]? = some x → Pv i σ H → H T = none → g (.ref T) σ (upd H T (.tup [.int (i : Nat), x])) fun σ2 H2 => tb { D with nx := Pv (i + 1), ct := Pv (i + 1), bk := D.nx } σ2 H2) (hd : ∀ σ H, Pv xs.length σ H → D.nx σ H) :
    ∃ W : Nat → Nat → L2.St → Hp → Prop, (∃ m, W 0 m σ H) ∧ ∀ i m σ H, W i m σ H →
      ((Ite K a).stop i H ∧ D.nx σ H) ∨ ((Ite K a).go i H ∧ ∃ N : L2.St → Hp → Prop, (∀ σ' H', N σ' H' → ∃ m', m' < m ∧ W (i + 1) m' σ' H') ∧ ∀ v H', (Ite K a).yld i H v H' → g v σ H' fun σ2 H2 => tb { D with nx := N, ct := N, bk := D.nx } σ2 H2) := by
  refine ⟨fun i m σ H => m = xs.length - i ∧ i ≤ xs.length ∧ Pv i σ H, ⟨xs.length, rfl, Nat.zero_le _, h0⟩, ?_⟩
  rintro i m σ H ⟨rfl, hi, p⟩
  have q := hl i σ H p
  by_cases hlt : i < xs.length
  · have hx : xs[i]? = some xs[i] := List.getElem?_eq_getElem hlt
    refine .inr ⟨⟨xs, _, q, hx⟩, Pv (i + 1), fun σ' H' p' => ⟨xs.length - (i + 1), by omega, rfl, hlt, p'⟩, fun v H' y => ?_⟩
    obtain ⟨T, x', rfl, hT, rfl, f1⟩ := y
    exact hs i x' T σ H (f1 xs q) p hT
  · have e : i = xs.length := by omega
    subst e
    exact .inl ⟨⟨xs, q, Nat.le_refl _⟩, hd σ H p⟩
/-! ### a comprehension over zip of two lists of one length -/
theorem lc_zip {K : PySem.W.Frag} {a b : Addr} {xs ys : List V} {g : TG} {tt : TT} {te : TE} {vs : List Nat} {σ : L2.St} {H1 : Hp} {D : Addr} {Qd : Hp → Prop} (hl : xs.length = ys.length) (Pv : Nat → Hp → Prop) (h0 : Pv 0 (upd H1 D (.lst []))) (hq : ∀ i H, Pv i H → SqL K H a xs ∧ SqL K H b ys)
    (hs : ∀ (i : Nat) (x y : V) (T : Addr) (H : Hp), xs[i]? = some x → ys[i]? = some y → Pv i H → H T = none → g (.ref T) (wipe σ vs) (upd H T (.tup [x, y])) fun σ2 H2 => wipe σ2 vs = wipe σ vs ∧ tt σ2 H2 fun b H3 =>
      if b = true then te σ2 H3 fun y H4 => ∃ acc, H4 D = some (.lst acc) ∧ acc.length < sizeLine ∧ Pv (i + 1) (upd H4 D (.lst (acc ++ [y]))) else Pv (i + 1) H3) (hd : ∀ H, Pv xs.length H → Qd H) :
    ∃ W : Nat → Nat → Hp → Prop, (∃ m, W 0 m (upd H1 D (.lst []))) ∧ ∀ i m H, W i m H →
      ((Itz K a b).stop i H ∧ Qd H) ∨ ((Itz K a b).go i H ∧ ∃ Nx : Hp → Prop, (∀ H', Nx H' → ∃ m', m' < m ∧ W (i + 1) m' H') ∧ ∀ x H', (Itz K a b).yld i H x H' → g x (wipe σ vs) H' fun σ2 H2 => wipe σ2 vs = wipe σ vs ∧ tt σ2 H2 fun b H3 =>
        if b = true then te σ2 H3 fun y H4 => ∃ acc, H4 D = some (.lst acc) ∧ acc.length < sizeLine ∧ Nx (upd H4 D (.lst (acc ++ [y]))) else Nx H3) := by
  refine ⟨fun i m H => m = xs.length - i ∧ i ≤ xs.length ∧ Pv i H, ⟨xs.length, rfl, Nat.zero_le _, h0⟩, ?_⟩
  rintro i m H ⟨rfl, hi, p⟩
  obtain ⟨qx, qy⟩ := hq i H p
  by_cases hlt : i < xs.length
  · have hx : xs[i]? = some xs[i] := List.getElem?_eq_getElem hlt
    have hlt2 : i < ys.length := by omega
    have hy : ys[i]? = some ys[i] := List.getElem?_eq_getElem hlt2
    refine .inr ⟨⟨xs, ys, _, _, qx, qy, hx, hy⟩, Pv (i + 1), fun H' p' => ⟨xs.length - (i + 1), by omega, rfl, hlt, p'⟩, fun v H' y => ?_⟩
    obtain ⟨T, x', y', rfl, hT, rfl, f1, f2⟩ := y
    exact hs i x' y' T H (f1 xs qx) (f2 ys qy) p hT
  · have e : i = xs.length := by omega
    subst e
    exact .inl ⟨⟨xs, ys, qx, qy, Or.inl (Nat.le_refl _)⟩, hd H p⟩
end Dis
end
section
set_option linter.all false
set_option maxRecDepth 100000
set_option maxHeartbeats 2000000
/-! # How trees lie in the heap; readings of the commonest pieces -/
namespace Dis
open PySem PySem.Spec PyProof.Rows L2
open Kp365 (Node)
def vN (ks : List Nat) : List V := ks.map fun k => V.int (k : Nat)
theorem vN_len (ks : List Nat) : (vN ks).length = ks.length := List.length_map ..
theorem vN_app (a b : List Nat) : vN (a ++ b) = vN a ++ vN b := List.map_append ..
theorem vN_int (ks : List Nat) : vN ks = (ks.map fun k => ((k : Nat) : Int)).map V.int := by
  unfold vN
  rw [List.map_map]
  rfl
theorem vN_get {ks : List Nat} {i k : Nat} (h : ks[i]? = some k) : (vN ks)[i]? = some (V.int (k : Nat)) := by
  unfold vN
  rw [List.getElem?_map, h]
  rfl
theorem of_vN {ks : List Nat} {i : Nat} {v : V} (h : (vN ks)[i]? = some v) : ∃ k, ks[i]? = some k ∧ v = V.int (k : Nat) := by
  unfold vN at h
  rw [List.getElem?_map] at h
  cases e : ks[i]? with
  | none =>
    rw [e] at h
    cases h
  | some k =>
    rw [e] at h
    cases h
    exact ⟨k, rfl, rfl⟩
def nF (n : Node) (c : Addr) : List (Str × V) := [("kind", .int (n.kind : Nat)), ("is_so", .bl (n.so == 1)), ("misread", .int (n.wrong : Nat)), ("children", .ref c)]
def NodeAt (C : Addr) (H : Hp) (a : Addr) (n : Node) : Prop := ∃ dx c, H a = some (.ins C dx (nF n c)) ∧ H c = some (.lst (vN n.kids))
def TreeAt (C : Addr) (H : Hp) (t : Addr) (l : List Node) : Prop := ∃ as : List Addr, H t = some (.lst (as.map V.ref)) ∧ as.length = l.length ∧ ∀ (i : Nat) (a : Addr) (n : Node), as[i]? = some a → l[i]? = some n → NodeAt C H a n
def RowsAt (H : Hp) (as : List Addr) (rows : List (List Nat)) : Prop := as.length = rows.length ∧ ∀ (i : Nat) (a : Addr) (r : List Nat), as[i]? = some a → rows[i]? = some r → H a = some (.lst (vN r))
theorem NodeAt.same {C : Addr} {H H' : Hp} {a : Addr} {n : Node} (N : NodeAt C H a n) (s : Same H H') : NodeAt C H' a n := by
  obtain ⟨dx, c, h1, h2⟩ := N
  exact ⟨dx, c, s _ _ h1, s _ _ h2⟩
theorem TreeAt.same {C : Addr} {H H' : Hp} {t : Addr} {l : List Node} (N : TreeAt C H t l) (s : Same H H') : TreeAt C H' t l := by
  obtain ⟨as, h1, h2, h3⟩ := N
  exact ⟨as, s _ _ h1, h2, fun i a n ha hn => (h3 i a n ha hn).same s⟩
theorem RowsAt.same {H H' : Hp} {as : List Addr} {rows : List (List Nat)} (N : RowsAt H as rows) (s : Same H H') : RowsAt H' as rows := ⟨N.1, fun i a r ha hr => s _ _ (N.2 i a r ha hr)⟩
theorem RowsAt.nil (H : Hp) : RowsAt H [] [] := ⟨rfl, fun i a r h => by simp at h⟩
theorem RowsAt.snoc {H H' : Hp} {as : List Addr} {rows : List (List Nat)} {a : Addr} {r : List Nat} (N : RowsAt H as rows) (s : Same H H') (h : H' a = some (.lst (vN r))) : RowsAt H' (as ++ [a]) (rows ++ [r]) := by
  refine ⟨by rw [List.length_append, List.length_append, N.1]; rfl, fun i b q hb hq => ?_⟩
  by_cases c : i < as.length
  · rw [List.getElem?_append_left c] at hb
    rw [List.getElem?_append_left (by rw [← N.1]; exact c)] at hq
    exact s _ _ (N.2 i b q hb hq)
  · rw [List.getElem?_append_right (by omega)] at hb
    rw [List.getElem?_append_right (by rw [← N.1]; omega)] at hq
    have hi := lt_of_get hb
    have hi0 : i - as.length = 0 := by
      simp at hi
      omega
    have hi1 : i - rows.length = 0 := by
      rw [← N.1]
      exact hi0
    rw [hi0] at hb
    rw [hi1] at hq
    cases hb
    cases hq
    exact h
theorem RowsAt.get {H : Hp} {as : List Addr} {rows : List (List Nat)} (N : RowsAt H as rows) {i : Nat} (h : i < rows.length) : ∃ a r, as[i]? = some a ∧ rows[i]? = some r ∧ H a = some (.lst (vN r)) := by
  obtain ⟨r, hr⟩ := get_of_lt h
  obtain ⟨a, ha⟩ := get_of_lt (l := as) (by rw [N.1]; exact h)
  exact ⟨a, r, ha, hr, N.2 i a r ha hr⟩
theorem small {n : Nat} (h : n ≤ 100000) : n ≤ sizeLine := by
  rw [sizeLine_eq]
  omega
theorem smallT {n : Nat} (h : n ≤ 100000) : n < sizeLine := by
  rw [sizeLine_eq]
  omega
theorem same_new {H : Hp} {p : Addr} {o : HO} (h : H p = none) : Same H (upd H p o) := fun b u e => by
  rw [upd_ne (ne_of_none e h)]
  exact e
/-- what was tracked stands still behind a store to what came later -/
theorem same_late {H0 H : Hp} {p : Addr} {o : HO} (s : Same H0 H) (h : H0 p = none) : Same H0 (upd H p o) := fun b u e => by
  rw [upd_ne (ne_of_none e h)]
  exact s b u e
/-! ### what the written part says: constants, built-ins, classes -/
structure Txt (K : PySem.W.Frag) (mg : Str → Option Value) (CN CR CH CK : Addr) : Prop where
  LEAF : ∃ t, mg "LEAF" = some (.int 0 t)
  ALL : ∃ t, mg "ALL_OF" = some (.int 1 t)
  SOME : ∃ t, mg "SOME_OF" = some (.int 2 t)
  WHOLE : ∃ t, mg "WHOLE" = some (.int 100 t)
  NOSUCH : ∃ t, mg "NO_SUCH" = some (.int (-2) t)
  EMPTY : ∃ t, mg "EMPTY" = some (.int (-6) t)
  NOTBEGUN : ∃ t, mg "NOT_BEGUN" = some (.int (-11) t)
  NOTRIGHT : ∃ t, mg "NOT_RIGHT" = some (.int (-22) t)
  TOOMANY : ∃ t, mg "TOO_MANY" = some (.int (-28) t)
  NOLEAF : ∃ t, mg "NO_LEAF" = some (.int (-33) t)
  MOSTN : ∃ t, mg "MOST_NODES" = some (.int 20 t)
  MOSTC : ∃ t, mg "MOST_CHILDREN" = some (.int 4 t)
  BEGIN : ∃ t, mg "BEGIN" = some (.int 0 t)
  all : mg "all" = none
  any : mg "any" = none
  max : mg "max" = none
  min : mg "min" = none
  len : mg "len" = none
  set : mg "set" = none
  zip : mg "zip" = none
  enumerate : mg "enumerate" = none
  int : mg "int" = none
  valueError : mg "ValueError" = none
  clN : Cls K CN
  nKind : NoAttr K CN "kind"
  nSo : NoAttr K CN "is_so"
  nMis : NoAttr K CN "misread"
  nKids : NoAttr K CN "children"
  clH : Cls K CH
  nTree : NoAttr K CH "tree"
  clK : Cls K CK
  nHolder : NoAttr K CK "holder"
  gR : mg "Refused" = some (.ref CR)
  oR : OexC K CR
  xR : XfC K CR
  nNumber : PySem.W.findIn K (.ref CR) "number" = some none
  teR : PySem.W.exmOne K (.ref CR) (.ref CR) = some true
  veI : PySem.W.findCls K (.type "ValueError") (.type "type") "__init__" = some (.val (.builtin "ValueError.__init__"))
/-- a def of the text as it stands behind the top -/
def GFun (K : PySem.W.Frag) (mg : Str → Option Value) (x : Str) (st : Stmt) (ps : List Str) : Prop :=
  ∃ (f : Addr) (fd : FuncData), mg x = some (.ref f) ∧ PySem.W.keepIn K (.ref f) = true ∧ Binds K fd ps [] ∧ Fun K x x st f fd
def MFun (K : PySem.W.Frag) (C : Addr) (cn m : Str) (st : Stmt) (ps : List Str) : Prop :=
  ∃ (f : Addr) (fd : FuncData), Meth K C m f ∧ Binds K fd ps [] ∧ Fun K m (cn ++ "." ++ m) st f fd
def CFun (K : PySem.W.Frag) (mg : Str → Option Value) (C : Addr) (cn : Str) (st : Stmt) (ps : List Str) : Prop :=
  ∃ (f : Addr) (fd : FuncData), mg cn = some (.ref C) ∧ Mk K C f ∧ Binds K fd ps [] ∧ Fun K "__init__" (cn ++ ".__init__") st f fd
section
variable {X : Cx}
theorem pe_cI {x : Str} {n : Int} {pos : Pos} (h : ∃ t, X.mg x = some (.int n t)) (hg : Gl X x := by rfl) (hd : (x == ("__debug__" : Str)) = false := by decide) : PE X (.Name x pos) (tC (.int n)) := by
  obtain ⟨t, h⟩ := h
  exact pe_glob hg h ⟨t, rfl⟩ hd
end
theorem lk_here {k : Str} {v : V} {r : List (Str × V)} : List.lookup k ((k, v) :: r) = some v := by
  have e : (k == k) = true := beq_self_eq_true k
  simp only [List.lookup, e]
theorem lk_past {k g : Str} {v : V} {r : List (Str × V)} (h : (k == g) = false) : List.lookup k ((g, v) :: r) = List.lookup k r := by
  simp only [List.lookup, h]
theorem nF_kind (n : Node) (c : Addr) : (nF n c).lookup ("kind" : Str) = some (.int (n.kind : Nat)) := lk_here
theorem nF_so (n : Node) (c : Addr) : (nF n c).lookup ("is_so" : Str) = some (.bl (n.so == 1)) := (lk_past (by decide +kernel)).trans lk_here
theorem nF_mis (n : Node) (c : Addr) : (nF n c).lookup ("misread" : Str) = some (.int (n.wrong : Nat)) := (lk_past (by decide +kernel)).trans ((lk_past (by decide +kernel)).trans lk_here)
theorem nF_kids (n : Node) (c : Addr) : (nF n c).lookup ("children" : Str) = some (.ref c) := (lk_past (by decide +kernel)).trans ((lk_past (by decide +kernel)).trans ((lk_past (by decide +kernel)).trans lk_here))
theorem nF_no {m : Str} (n : Node) (c : Addr) (h1 : (m == ("kind" : Str)) = false) (h2 : (m == ("is_so" : Str)) = false) (h3 : (m == ("misread" : Str)) = false) (h4 : (m == ("children" : Str)) = false) : (nF n c).lookup m = none :=
  (lk_past h1).trans ((lk_past h2).trans ((lk_past h3).trans ((lk_past h4).trans rfl)))
theorem put_here {f : Str} {v x : V} {r : List (Str × V)} : putF f v ((f, x) :: r) = (f, v) :: r := if_pos rfl
theorem put_past {f g : Str} {v x : V} {r : List (Str × V)} (h : ¬ g = f) : putF f v ((g, x) :: r) = (g, x) :: putF f v r := if_neg h
theorem put_nil {f : Str} {v : V} : putF f v [] = [(f, v)] := rfl
theorem nF_new (k b w c : V) : putF "children" c (putF "misread" w (putF "is_so" b (putF "kind" k []))) = [(("kind" : Str), k), (("is_so" : Str), b), (("misread" : Str), w), (("children" : Str), c)] := by
  repeat (first | rw [put_nil] | rw [put_past (by decide +kernel)])
/-! ### readings -/
section
variable {K : PySem.W.Frag} {mg : Str → Option Value} {CN CR CH CK : Addr} {σ : L2.St} {H : Hp} {i : Nat} {a : Addr} {n : Node}
theorem rdVar {v : V} {Q : VK} (h : σ[i]? = some (some v)) (q : Q v H) : tVar i σ H Q := ⟨v, h, q⟩
theorem rdKind (T : Txt K mg CN CR CH CK) {te : TE} {Q : VK} (N : NodeAt CN H a n) (he : te σ H fun x H1 => x = .ref a ∧ H1 = H) (mono : ∀ {R R' : VK}, (∀ x H, R x H → R' x H) → te σ H R → te σ H R') (q : Q (.int (n.kind : Nat)) H) : tFld K te "kind" σ H Q := by
  obtain ⟨dx, c, h1, h2⟩ := N
  refine mono (fun x H1 z => ?_) he
  obtain ⟨rfl, rfl⟩ := z
  exact ⟨a, CN, dx, _, _, rfl, h1, T.clN, T.nKind, nF_kind n c, q⟩
/-- a field of the node in slot i -/
theorem rdKindV (T : Txt K mg CN CR CH CK) {Q : VK} (h : σ[i]? = some (some (.ref a))) (N : NodeAt CN H a n) (q : Q (.int (n.kind : Nat)) H) : tFld K (tVar i) "kind" σ H Q := by
  obtain ⟨dx, c, h1, h2⟩ := N
  exact ⟨_, h, a, CN, dx, _, _, rfl, h1, T.clN, T.nKind, nF_kind n c, q⟩
theorem rdSoV (T : Txt K mg CN CR CH CK) {Q : VK} (h : σ[i]? = some (some (.ref a))) (N : NodeAt CN H a n) (q : Q (.bl (n.so == 1)) H) : tFld K (tVar i) "is_so" σ H Q := by
  obtain ⟨dx, c, h1, h2⟩ := N
  exact ⟨_, h, a, CN, dx, _, _, rfl, h1, T.clN, T.nSo, nF_so n c, q⟩
theorem rdMisV (T : Txt K mg CN CR CH CK) {Q : VK} (h : σ[i]? = some (some (.ref a))) (N : NodeAt CN H a n) (q : Q (.int (n.wrong : Nat)) H) : tFld K (tVar i) "misread" σ H Q := by
  obtain ⟨dx, c, h1, h2⟩ := N
  exact ⟨_, h, a, CN, dx, _, _, rfl, h1, T.clN, T.nMis, nF_mis n c, q⟩
theorem rdKidsV (T : Txt K mg CN CR CH CK) {Q : VK} (h : σ[i]? = some (some (.ref a))) (N : NodeAt CN H a n) (q : ∀ c, H c = some (.lst (vN n.kids)) → Q (.ref c) H) : tFld K (tVar i) "children" σ H Q := by
  obtain ⟨dx, c, h1, h2⟩ := N
  exact ⟨_, h, a, CN, dx, _, _, rfl, h1, T.clN, T.nKids, nF_kids n c, q c h2⟩
/-- node.kind == m, as a test -/
theorem rdKindIs (T : Txt K mg CN CR CH CK) {m : Int} {Q : Bool → Hp → Prop} (h : σ[i]? = some (some (.ref a))) (N : NodeAt CN H a n) (q : Q (decide (((n.kind : Nat) : Int) = m)) H) : tB (tEqI (tFld K (tVar i) "kind") (tC (.int m))) σ H Q := by
  obtain ⟨dx, c, h1, h2⟩ := N
  exact ⟨_, h, a, CN, dx, _, _, rfl, h1, T.clN, T.nKind, nF_kind n c, _, _, rfl, rfl, _, rfl, q⟩
/-- [found[child] for child in node.children] -/
theorem rdGather (T : Txt K mg CN CR CH CK) {f c : Nat} {p : Addr} {xs : List V} {Q : VK} (hf : σ[f]? = some (some (.ref p))) (hfc : f ≠ c) (hc : c < σ.length) (h : σ[i]? = some (some (.ref a))) (N : NodeAt CN H a n) (h4 : n.kids.length ≤ 4)
    (hp : H p = some (.lst xs)) (hk : ∀ k ∈ n.kids, k < xs.length) (q : ∀ D, H D = none → Q (.ref D) (upd H D (.lst (n.kids.map fun k => xs.getD k .non)))) :
    tLc (iList K (tFld K (tVar i) "children")) (gName c) tYes (tOp (rIxL K) (tVar f) (tVar c)) [c] σ H Q := by
  obtain ⟨dx, cc, h1, hcc⟩ := N
  refine ⟨_, h, a, CN, dx, _, _, rfl, h1, T.clN, T.nKids, nF_kids n cc, cc, rfl, ⟨_, SqL.of hcc⟩, fun D hD => ?_⟩
  have nD : cc ≠ D := ne_of_none hcc hD
  have pD : p ≠ D := ne_of_none hp hD
  refine lc_list (K := K) (a := cc) (xs := vN n.kids) (fun j H' => H' = upd H D (.lst ((n.kids.take j).map fun k => xs.getD k .non))) rfl (fun j H' _ e => ?_) ?_ ?_
  · rw [e]
    exact SqL.of (by rw [upd_ne nD]; exact hcc)
  · intro j x H' hx e
    obtain ⟨k, hk', rfl⟩ := of_vN hx
    subst e
    have hkl := hk k (List.mem_of_getElem? hk')
    have hw : (wipe σ [c]) = σ.set c none := rfl
    refine ⟨?_, .ref p, ?_, V.int (k : Nat), ?_, p, xs, _, xs[k], rfl, rfl, SqL.of (by rw [upd_ne pD]; exact hp), atI_nat (List.getElem?_eq_getElem hkl), _, upd_same, ?_, ?_⟩
    · rw [hw]
      show ((σ.set c none).set c (some (V.int (k : Nat)))).set c none = σ.set c none
      rw [List.set_set, List.set_set]
    · rw [hw, List.set_set, List.getElem?_set_ne (Ne.symm hfc)]
      exact hf
    · rw [hw, List.set_set]
      exact List.getElem?_set_self hc
    · rw [List.length_map, List.length_take]
      exact smallT (by omega)
    · rw [upd_upd, take_snoc hk', List.map_append]
      show _ = upd H D (.lst (_ ++ [xs.getD k .non]))
      rw [List.getD_eq_getElem?_getD, List.getElem?_eq_getElem hkl]
      rfl
  · intro H' e
    rw [vN_len, List.take_length] at e
    rw [e]
    exact q D hD
end
/-! ### lists that are cut -/
theorem cut_take (xs : List V) (j : Nat) : cutV xs none (some (j : Int)) = xs.take j := by
  unfold cutV
  rw [HT.sIx_none, HT.sIx_nat, List.drop_zero]
  show xs.take (min j xs.length - 0) = _
  rw [Nat.sub_zero]
  by_cases h : j ≤ xs.length
  · rw [Nat.min_eq_left h]
  · rw [Nat.min_eq_right (by omega), List.take_length, List.take_of_length_le (by omega)]
theorem cut_drop (xs : List V) (j : Nat) : cutV xs (some (j : Int)) none = xs.drop j := by
  unfold cutV
  rw [HT.sIx_none, HT.sIx_nat]
  by_cases h : j ≤ xs.length
  · rw [Nat.min_eq_left h]
    exact List.take_of_length_le (by rw [List.length_drop]; omega)
  · rw [Nat.min_eq_right (by omega), List.drop_of_length_le (Nat.le_refl _), List.drop_of_length_le (by omega)]
    exact List.take_nil
theorem cut_mid (xs : List V) (i j : Nat) (h : i ≤ j) (hj : j ≤ xs.length) : cutV xs (some (i : Int)) (some (j : Int)) = (xs.drop i).take (j - i) := by
  unfold cutV
  rw [HT.sIx_nat, HT.sIx_nat, Nat.min_eq_left hj, Nat.min_eq_left (Nat.le_trans h hj)]
theorem cut_last (xs : List V) : cutV xs none (some (-1)) = xs.dropLast := by
  unfold cutV
  rw [HT.sIx_none, List.drop_zero, List.dropLast_eq_take]
  have e : HT.sIx xs.length xs.length (some (-1)) = xs.length - 1 := by
    unfold HT.sIx
    simp
    omega
  rw [e]
  rfl
end Dis
end
section
set_option linter.all false
set_option maxRecDepth 100000
set_option maxHeartbeats 2000000
/-! # The promises -/
namespace Dis
open PySem PySem.Spec PyProof.Rows L2
open Kp365 (Node)
def top (i : Nat) : Stmt := PySem.Challenge.pw_disputed_s01_answers.main.body.getD i (.Pass ⟨0, 0, 0, 0⟩)
/-- a new list -/
def NewL (H : Hp) (xs : List V) (Q : VK) : Prop := ∀ (H' : Hp) (p : Addr), Same H H' → H p = none → H' p = some (.lst xs) → Q (.ref p) H'
def bls (bs : List Bool) : List V := bs.map V.bl
/-! ### nodes -/
def spNodeInit (CN : Addr) : Sp := fun vs H Q _ => ∃ (p dx : Addr) (k : Int) (b : Bool) (w : Int) (c : Addr), vs = [.ref p, .int k, .bl b, .int w, .ref c] ∧ H p = some (.ins CN dx []) ∧
  Q .non (upd H p (.ins CN dx [("kind", .int k), ("is_so", .bl b), ("misread", .int w), ("children", .ref c)]))
def spReadSo (CN : Addr) : Sp := fun vs H Q _ => ∃ (a : Addr) (n : Node), vs = [.ref a] ∧ NodeAt CN H a n ∧ n.wrong ≤ 100 ∧ Q (.int (readSo n : Nat)) H
def spNewLeaf (CN : Addr) : Sp := fun vs H Q _ => ∃ (b : Bool) (w : Nat), vs = [.bl b, .int (w : Nat)] ∧ ∀ (H' : Hp) (p : Addr), Same H H' → H p = none → NodeAt CN H' p (leafN b w) → Q (.ref p) H'
def spPutAt (CN : Addr) : Sp := fun vs H Q _ => ∃ (t : Addr) (j : Nat) (a : Addr) (l : List Node) (n : Node), vs = [.ref t, .int (j : Nat), .ref a] ∧ TreeAt CN H t l ∧ l.length ≤ 20 ∧ j < l.length ∧ NodeAt CN H a n ∧
  ∀ (H' : Hp) (p : Addr), Same H H' → H p = none → TreeAt CN H' p (putAt l j n) → Q (.ref p) H'
def spFlipped (CN : Addr) : Sp := fun vs H Q _ => ∃ (t : Addr) (j : Nat) (l : List Node), vs = [.ref t, .int (j : Nat)] ∧ TreeAt CN H t l ∧ l.length ≤ 20 ∧ j < l.length ∧
  ∀ (H' : Hp) (p : Addr), Same H H' → H p = none → TreeAt CN H' p (flipd l j) → Q (.ref p) H'
def spMisr (CN : Addr) : Sp := fun vs H Q _ => ∃ (t : Addr) (j w : Nat) (l : List Node), vs = [.ref t, .int (j : Nat), .int (w : Nat)] ∧ TreeAt CN H t l ∧ l.length ≤ 20 ∧ j < l.length ∧
  ∀ (H' : Hp) (p : Addr), Same H H' → H p = none → TreeAt CN H' p (misr l j w) → Q (.ref p) H'
def spTruths (CN : Addr) : Sp := fun vs H Q _ => ∃ (t : Addr) (l : List Node), vs = [.ref t] ∧ TreeAt CN H t l ∧ WF l ∧ NewL H (bls (truths l)) Q
def spJoined (K : PySem.W.Frag) : Sp := fun vs H Q _ => ∃ (r : Addr) (as : List Addr) (rows : List (List Nat)), vs = [.ref r] ∧ H r = some (.lst (as.map V.ref)) ∧ RowsAt H as rows ∧ rows.flatten.length ≤ 10000 ∧ NewL H (vN rows.flatten) Q
/-- a node's row -/
def spRow (CN : Addr) (f : List Node → Nat → List Nat) : Sp := fun vs H Q _ => ∃ (t : Addr) (i : Nat) (l : List Node), vs = [.ref t, .int (i : Nat)] ∧ TreeAt CN H t l ∧ WF l ∧ i < l.length ∧
  ∀ (H' : Hp) (p : Addr), Same H H' → H' p = some (.lst (vN (f l i))) → Q (.ref p) H'
/-- a node's number -/
def spNum (CN : Addr) (f : List Node → Nat → Nat) : Sp := fun vs H Q _ => ∃ (t : Addr) (i : Nat) (l : List Node), vs = [.ref t, .int (i : Nat)] ∧ TreeAt CN H t l ∧ WF l ∧ i < l.length ∧ ∀ H' : Hp, Same H H' → Q (.int (f l i : Nat)) H'
def spShortest : Sp := fun vs H Q _ => ∃ (r : Addr) (as : List Addr) (rows : List (List Nat)), vs = [.ref r] ∧ H r = some (.lst (as.map V.ref)) ∧ RowsAt H as rows ∧ rows ≠ [] ∧
  ∀ a : Addr, a ∈ as → H a = some (.lst (vN (shortest rows))) → Q (.ref a) H
/-! ### disputes -/
def spHeldAll (CN : Addr) : Sp := fun vs H Q _ => ∃ (t : Addr) (l : List Node), vs = [.ref t] ∧ TreeAt CN H t l ∧ WF l ∧ NewL H (vN (hdT l)) Q
def spHeldBy (CN : Addr) : Sp := fun vs H Q _ => ∃ (t r : Addr) (l : List Node) (ps : List Nat) (told : Nat), vs = [.ref t, .ref r, .int (told : Nat)] ∧ TreeAt CN H t l ∧ WF l ∧ H r = some (.lst (vN ps)) ∧ told ≠ 0 ∧ arePicks told l ps = true ∧ NewL H (vN (hbT told ps l)) Q
def spArePicks (CN : Addr) : Sp := fun vs H Q _ => ∃ (t r : Addr) (l : List Node) (ps : List Nat) (told : Nat), vs = [.ref t, .ref r, .int (told : Nat)] ∧ TreeAt CN H t l ∧ WF l ∧ H r = some (.lst (vN ps)) ∧ ∀ H' : Hp, Same H H' → Q (.bl (arePicks told l ps)) H'
def spIsPick (CN : Addr) : Sp := fun vs H Q _ => ∃ (a : Addr) (n : Node) (p told : Nat), vs = [.ref a, .int (p : Nat), .int (told : Nat)] ∧ NodeAt CN H a n ∧ Q (.bl (pickOk told n p)) H
def spPicked (CN : Addr) : Sp := fun vs H Q _ => ∃ (t : Addr) (i : Nat) (l : List Node) (n : Node), vs = [.ref t, .int (i : Nat)] ∧ TreeAt CN H t l ∧ WF l ∧ l[i]? = some n ∧ ∀ H' : Hp, Same H H' → Q (.int (pk l i n : Nat)) H'
def wayOf (l : List Node) (i : Nat) : List Nat := Kp365.way ⟨l⟩ 21 i
def spBest (CN : Addr) : Sp := fun vs H Q _ => ∃ (t : Addr) (i : Nat) (l : List Node), vs = [.ref t, .int (i : Nat)] ∧ TreeAt CN H t l ∧ WF l ∧ i < l.length ∧
  ((best l i).1 = none → ∀ H' : Hp, Same H H' → Q .non H') ∧ ∀ j, (best l i).1 = some j → ∀ (H' : Hp) (p : Addr), Same H H' → H' p = some (.tup [.int (j : Nat), .int ((best l i).2 : Nat)]) → Q (.ref p) H'
end Dis
end
section
set_option linter.all false
set_option maxRecDepth 100000
set_option maxHeartbeats 4000000
namespace Dis
open PySem PySem.Spec PyProof.Rows L2
open Kp365 (Node)
abbrev s_Node_init : Stmt := inClass (top 5) 0
theorem sc_Node_init : FnScope ["self", "kind", "is_so", "misread", "children"] ["self", "kind", "is_so", "misread", "children"] (defScope s_Node_init) := ⟨rfl, rfl, rfl, by decide +kernel, rfl, by decide +kernel, by decide +kernel⟩
abbrev s_Node_read_so : Stmt := inClass (top 5) 1
theorem sc_Node_read_so : FnScope ["self"] ["self"] (defScope s_Node_read_so) := ⟨rfl, rfl, rfl, by decide +kernel, rfl, by decide +kernel, by decide +kernel⟩
abbrev s_new_leaf : Stmt := top 6
theorem sc_new_leaf : FnScope ["is_so", "misread"] ["is_so", "misread"] (defScope s_new_leaf) := ⟨rfl, rfl, rfl, by decide +kernel, rfl, by decide +kernel, by decide +kernel⟩
abbrev s_put_at : Stmt := top 7
theorem sc_put_at : FnScope ["tree", "number", "node"] ["tree", "number", "node"] (defScope s_put_at) := ⟨rfl, rfl, rfl, by decide +kernel, rfl, by decide +kernel, by decide +kernel⟩
abbrev s_flipped : Stmt := top 8
theorem sc_flipped : FnScope ["tree", "number"] ["tree", "number"] (defScope s_flipped) := ⟨rfl, rfl, rfl, by decide +kernel, rfl, by decide +kernel, by decide +kernel⟩
abbrev s_misread_so : Stmt := top 9
theorem sc_misread_so : FnScope ["tree", "number", "misread"] ["tree", "number", "misread"] (defScope s_misread_so) := ⟨rfl, rfl, rfl, by decide +kernel, rfl, by decide +kernel, by decide +kernel⟩
section
variable {P : Program} {w : World} {K : PySem.W.Frag} {mg : Str → Option Value} {base : Heap} {CN CR CH CK : Addr}
theorem ok_Node (T : Txt K mg CN CR CH CK) (F : CFun K mg CN "Node" s_Node_init ["self", "kind", "is_so", "misread", "children"]) : COk P w K mg base CX0 1 "Node" CN ["self", "kind", "is_so", "misread", "children"] (spNodeInit CN) := by
  obtain ⟨f, fd, hm, M, hb, F⟩ := F
  refine ⟨f, fd, hm, M, hb, F.ok sc_Node_init (fun vs H Q E h => ?_) (fun cdv A outer s H vs Q E hr h => ⟨_, (pss_cons (ps_fld (pv 0) (pv 1) rfl) (pss_cons (ps_fld (pv 0) (pv 2) rfl) (pss_cons (ps_fld (pv 0) (pv 3) rfl) (pss_one (ps_fld (pv 0) (pv 4) rfl))))), ?_⟩)⟩
  · obtain ⟨p, dx, k, b, w, c, rfl, _⟩ := h
    rfl
  · obtain ⟨p, dx, k, b, w, c, rfl, hp, q⟩ := h
    refine ⟨_, rfl, _, rfl, p, CN, dx, [], rfl, hp, T.clN, T.nKind, (by show 0 < 1000; decide), ?_⟩
    refine ⟨_, rfl, _, rfl, p, CN, dx, _, rfl, upd_same, T.clN, T.nSo, (by show 1 < 1000; decide), ?_⟩
    refine ⟨_, rfl, _, rfl, p, CN, dx, _, rfl, upd_same, T.clN, T.nMis, (by show 2 < 1000; decide), ?_⟩
    refine ⟨_, rfl, _, rfl, p, CN, dx, _, rfl, upd_same, T.clN, T.nKids, (by show 3 < 1000; decide), ?_⟩
    dsimp only
    rw [upd_upd, upd_upd, upd_upd, nF_new]
    exact q
theorem ok_read_so (T : Txt K mg CN CR CH CK) (F : MFun K CN "Node" "read_so" s_Node_read_so ["self"]) : MOk P w K mg base CX0 1 CN "read_so" ["self"] (spReadSo CN) := by
  obtain ⟨f, fd, hm, hb, F⟩ := F
  refine ⟨f, fd, hm, hb, F.ok sc_Node_read_so (fun vs H Q E h => ?_) (fun cdv A outer s H vs Q E hr h => ⟨_, (pss_cons (ps_if (pt_val (pe_fld (pv 0) rfl)) (pss_one (ps_ret (pe_op op_sub (pe_cI T.WHOLE) (pe_fld (pv 0) rfl)))) pss_nil) (pss_one (ps_ret (pe_fld (pv 0) rfl)))), ?_⟩)⟩
  · obtain ⟨a, n, rfl, _⟩ := h
    rfl
  · obtain ⟨a, n, rfl, N, hw, q⟩ := h
    dsimp only [tSeq, tIfS, tNext, tB, tTest, tEqI, tNeI, tLt, tLe, tGt, tGe, tCmp, t2I, tAsg, tDrop, tRet, gName, tCons, tNil, tBM, tCB, tOp, tCallG, tCallGS, tMethG, tMakeG, tSl, tPart, tNoPart, tLst, tTup, tNot, tNotV, tAnd, tOr, tAndV, tOrV, tIf, tIsN, tNotN, tC, tUn, rU, rI, rI0]
    unfold readSo at q
    refine rdSoV T rfl N ⟨_, rfl, ?_⟩
    refine ite2 (fun c => ?_) (fun c => ?_)
    · have c' : n.so = 1 := eq_of_beq c
      rw [if_pos c'] at q
      refine rdMisV T rfl N ⟨_, _, rfl, rfl, ?_⟩
      have e : (100 : Int) - ((n.wrong : Nat) : Int) = ((100 - n.wrong : Nat) : Int) := by omega
      rw [e]
      exact q
    · have c' : ¬ n.so = 1 := fun z => c (beq_iff_eq.mpr z)
      rw [if_neg c'] at q
      exact rdMisV T rfl N q
theorem ok_new_leaf (T : Txt K mg CN CR CH CK) (F : GFun K mg "new_leaf" s_new_leaf ["is_so", "misread"]) (G_Node : COk P w K mg base CX0 1 "Node" CN ["self", "kind", "is_so", "misread", "children"] (spNodeInit CN)) : GOk P w K mg base CX0 3 "new_leaf" ["is_so", "misread"] (spNewLeaf CN) := by
  obtain ⟨f, fd, hm, hk, hb, F⟩ := F
  refine ⟨f, fd, hm, hk, hb, F.ok sc_new_leaf (fun vs H Q E h => ?_) (fun cdv A outer s H vs Q E hr h => ⟨_, (pss_one (ps_ret (pe_makeG G_Node (hr.mono (by decide)) rfl pass0 (pa_cons (pe_cI T.LEAF) (pa_cons (pv 0) (pa_cons (pv 1) (pa_cons (pe_lst pa_nil) pa_nil))))))), ?_⟩)⟩
  · obtain ⟨b, w, rfl, _⟩ := h
    rfl
  · obtain ⟨b, w, rfl, q⟩ := h
    dsimp only [tSeq, tIfS, tNext, tB, tTest, tEqI, tNeI, tLt, tLe, tGt, tGe, tCmp, t2I, tAsg, tDrop, tRet, gName, tCons, tNil, tBM, tCB, tOp, tCallG, tCallGS, tMethG, tMakeG, tSl, tPart, tNoPart, tLst, tTup, tNot, tNotV, tAnd, tOr, tAndV, tOrV, tIf, tIsN, tNotN, tC, tUn, rU, rI, rI0]
    refine ⟨_, rfl, _, rfl, small (Nat.zero_le _), fun c hc x dx nx nd ne => ⟨x, dx, 0, b, (w : Nat), c, rfl, upd_same, rfl, ?_⟩⟩
    have hcx : c ≠ x := fun z => by
      rw [z, upd_same] at nx
      cases nx
    have hcd : c ≠ dx := fun z => by
      rw [z, upd_same] at nd
      cases nd
    have s1 : Same H (upd (upd (upd (upd H c (.lst [])) dx (.own x)) x (.ins CN dx [])) x (.ins CN dx [("kind", .int 0), ("is_so", .bl b), ("misread", .int (w : Nat)), ("children", .ref c)])) := by
      rw [upd_upd]
      refine same_late (same_late (same_new hc) ?_) ?_
      · exact (same_new (o := .lst []) hc).free nd
      · exact (same_new (o := .lst []) hc).free nx
    refine q _ x s1 ((same_new (o := .lst []) hc).free nx) ⟨dx, c, ?_, ?_⟩
    · rw [upd_same]
      cases b <;> rfl
    · rw [upd_ne hcx, upd_ne hcx, upd_ne hcd, upd_same]
      rfl
theorem as_take {A B : Type} {f : A → B} (l : List A) (j : Nat) : (l.map f).take j = (l.take j).map f := List.map_take.symm
theorem ok_put_at (T : Txt K mg CN CR CH CK) (F : GFun K mg "put_at" s_put_at ["tree", "number", "node"]) : GOk P w K mg base CX0 1 "put_at" ["tree", "number", "node"] (spPutAt CN) := by
  obtain ⟨f, fd, hm, hk, hb, F⟩ := F
  refine ⟨f, fd, hm, hk, hb, F.ok sc_put_at (fun vs H Q E h => ?_) (fun cdv A outer s H vs Q E hr h => ⟨_, (pss_one (ps_ret (pe_op op_cat (pe_op op_cat (pe_slice sl_list (pv 0) po_none (po_some (pv 1))) (pe_lst (pa_cons (pv 2) pa_nil))) (pe_slice sl_list (pv 0) (po_some (pe_op op_add (pv 1) pe_int)) po_none)))), ?_⟩)⟩
  · obtain ⟨t, j, a, l, n, rfl, _⟩ := h
    rfl
  · obtain ⟨t, j, a, l, n, rfl, ⟨as, ht, hl, hN⟩, h20, hj, N, q⟩ := h
    dsimp only [tSeq, tIfS, tNext, tB, tTest, tEqI, tNeI, tLt, tLe, tGt, tGe, tCmp, t2I, tAsg, tDrop, tRet, gName, tCons, tNil, tBM, tCB, tOp, tCallG, tCallGS, tMethG, tMakeG, tSl, tPart, tNoPart, tLst, tTup, tNot, tNotV, tAnd, tOr, tAndV, tOrV, tIf, tIsN, tNotN, tC, tUn, rU, rI, rI0]
    refine ⟨_, rfl, _, rfl, _, rfl, t, _, rfl, SqL.of ht, fun p1 n1 => ?_⟩
    generalize e_H1 : upd H p1 _ = H1; have s1 : Same H H1 := e_H1 ▸ same_new n1; have g1 := e_H1 ▸ (upd_same : upd H p1 _ p1 = some _)
    refine ⟨_, rfl, small (by show 1 ≤ 100000; decide), fun p2 n2 => ?_⟩
    generalize e_H2 : upd H1 p2 _ = H2; have s2 : Same H1 H2 := e_H2 ▸ same_new n2; have g2 := e_H2 ▸ (upd_same : upd H1 p2 _ p2 = some _)
    have l1 := cutV_length (as.map V.ref) none (some (j : Int))
    have l2 := cutV_length (as.map V.ref) (some ((j : Int) + 1)) none
    rw [List.length_map] at l1 l2
    refine ⟨p1, p2, _, _, rfl, rfl, s2 _ _ g1, g2, small (by show _ + 1 ≤ _; omega), fun p3 n3 => ?_⟩
    generalize e_H3 : upd H2 p3 _ = H3; have s3 : Same H2 H3 := e_H3 ▸ same_new n3; have g3 := e_H3 ▸ (upd_same : upd H2 p3 _ p3 = some _)
    refine ⟨_, rfl, _, rfl, _, _, rfl, rfl, _, rfl, t, _, rfl, SqL.of (((s1.trans s2).trans s3) _ _ ht), fun p4 n4 => ?_⟩
    generalize e_H4 : upd H3 p4 _ = H4; have s4 : Same H3 H4 := e_H4 ▸ same_new n4; have g4 := e_H4 ▸ (upd_same : upd H3 p4 _ p4 = some _)
    refine ⟨p3, p4, _, _, rfl, rfl, s4 _ _ g3, g4, small (by rw [List.length_append]; show _ + 1 + _ ≤ _; omega), fun p5 n5 => ?_⟩
    generalize e_H5 : upd H4 p5 _ = H5; have s5 : Same H4 H5 := e_H5 ▸ same_new n5; have g5 := e_H5 ▸ (upd_same : upd H4 p5 _ p5 = some _)
    have s14 := ((s1.trans s2).trans s3).trans s4
    have s15 := s14.trans s5
    refine q _ p5 s15 (s14.free n5) ⟨as.take j ++ [a] ++ as.drop (j + 1), ?_, ?_, ?_⟩
    · rw [g5, cut_take]
      have e : ((j : Int) + 1) = ((j + 1 : Nat) : Int) := by omega
      rw [e, cut_drop, List.map_append, List.map_append, List.map_take, List.map_drop]
      rfl
    · unfold putAt
      simp only [List.length_append, List.length_take, List.length_drop, hl]
      rfl
    · intro i b m hb' hm'
      rw [putAt_get hj] at hm'
      have e : (as.take j ++ [a] ++ as.drop (j + 1))[i]? = if i = j then some a else as[i]? := by
        have hja : j < as.length := by omega
        have : as.take j ++ [a] ++ as.drop (j + 1) = as.set j a := by
          rw [List.set_eq_take_append_cons_drop, if_pos hja, List.append_assoc]
          rfl
        rw [this, List.getElem?_set]
        by_cases c : i = j
        · rw [if_pos c.symm, if_pos c, if_pos hja]
        · rw [if_neg (fun z => c z.symm), if_neg c]
      rw [e] at hb'
      by_cases c : i = j
      · rw [if_pos c] at hb' hm'
        cases hb'
        cases hm'
        exact N.same s15
      · rw [if_neg c] at hb' hm'
        exact (hN i b m hb' hm').same s15
end
end Dis
end
section
set_option linter.all false
set_option maxRecDepth 100000
set_option maxHeartbeats 4000000
namespace Dis
open PySem PySem.Spec PyProof.Rows L2
open Kp365 (Node)
theorem map_getD {A B : Type} {f : A → B} {z : A} {y : B} {l : List A} {k : Nat} (h : k < l.length) : (l.map f).getD k y = f (l.getD k z) := by
  rw [List.getD_eq_getElem?_getD, List.getD_eq_getElem?_getD, List.getElem?_map, List.getElem?_eq_getElem h]
  rfl
theorem gather {A : Type} {f : A → V} {z : A} {l : List A} {ks : List Nat} (h : ∀ k ∈ ks, k < l.length) : (ks.map fun k => (l.map f).getD k .non) = (ks.map fun k => l.getD k z).map f := by
  rw [List.map_map]
  exact List.map_congr_left fun k hk => map_getD (h k hk)
theorem of_refs {as : List Addr} {i : Nat} {x : V} (h : (as.map V.ref)[i]? = some x) : ∃ a, as[i]? = some a ∧ x = V.ref a := by
  rw [List.getElem?_map] at h
  cases e : as[i]? with
  | none =>
    rw [e] at h
    cases h
  | some a =>
    rw [e] at h
    cases h
    exact ⟨a, rfl, rfl⟩
/-- a turn's node -/
theorem TreeAt.turn {CN : Addr} {H H' : Hp} {as : List Addr} {l : List Node} (hl : as.length = l.length) (hN : ∀ (i : Nat) (a : Addr) (n : Node), as[i]? = some a → l[i]? = some n → NodeAt CN H a n) (s : Same H H') {i : Nat} {x : V} (h : (as.map V.ref)[i]? = some x) :
    ∃ a n, x = V.ref a ∧ l[i]? = some n ∧ NodeAt CN H' a n := by
  obtain ⟨a, ha, rfl⟩ := of_refs h
  obtain ⟨n, hn⟩ := get_of_lt (l := l) (by rw [← hl]; exact lt_of_get ha)
  exact ⟨a, n, rfl, hn, (hN i a n ha hn).same s⟩
theorem kids_lt {A : Type} {f : List A → Node → A} {l : List Node} (W : WF l) {i : Nat} {n : Node} (h : l[i]? = some n) : ∀ k ∈ n.kids, k < (tab f (l.take i)).length := fun k hk => by
  rw [take_len h]
  exact W.kid h hk
theorem int_ne {m k : Nat} (h : ¬ m = k) : ¬ ((m : Nat) : Int) = ((k : Nat) : Int) := by omega
abbrev s_truths : Stmt := top 10
theorem sc_truths : FnScope ["tree", "found", "node", "child"] ["tree"] (defScope s_truths) := ⟨rfl, rfl, rfl, by decide +kernel, rfl, by decide +kernel, by decide +kernel⟩
abbrev s_joined : Stmt := top 12
theorem sc_joined : FnScope ["rows", "found", "row"] ["rows"] (defScope s_joined) := ⟨rfl, rfl, rfl, by decide +kernel, rfl, by decide +kernel, by decide +kernel⟩
abbrev s_leaves_of : Stmt := top 11
theorem sc_leaves_of : FnScope ["tree", "number", "found", "node_number", "node", "child"] ["tree", "number"] (defScope s_leaves_of) := ⟨rfl, rfl, rfl, by decide +kernel, rfl, by decide +kernel, by decide +kernel⟩
abbrev s_depth_of : Stmt := top 13
theorem sc_depth_of : FnScope ["tree", "number", "found", "node", "child"] ["tree", "number"] (defScope s_depth_of) := ⟨rfl, rfl, rfl, by decide +kernel, rfl, by decide +kernel, by decide +kernel⟩
section
variable {P : Program} {w : World} {K : PySem.W.Frag} {mg : Str → Option Value} {base : Heap} {CN CR CH CK : Addr}
theorem ok_flipped (T : Txt K mg CN CR CH CK) (F : GFun K mg "flipped" s_flipped ["tree", "number"]) (G_put_at : GOk P w K mg base CX0 1 "put_at" ["tree", "number", "node"] (spPutAt CN)) (G_new_leaf : GOk P w K mg base CX0 3 "new_leaf" ["is_so", "misread"] (spNewLeaf CN)) :
    GOk P w K mg base CX0 4 "flipped" ["tree", "number"] (spFlipped CN) := by
  obtain ⟨f, fd, hm, hk, hb, F⟩ := F
  refine ⟨f, fd, hm, hk, hb, F.ok sc_flipped (fun vs H Q E h => ?_) (fun cdv A outer s H vs Q E hr h => ⟨_, (pss_one (ps_ret (pe_callG G_put_at (hr.mono (by decide)) rfl pass0 (pa_cons (pv 0) (pa_cons (pv 1) (pa_cons (pe_callG G_new_leaf (hr.mono (by decide)) rfl pass0 (pa_cons (pe_not (pe_fld (pe_ix ix_list (pv 0) (pv 1) (fun _ _ => rfl)) rfl)) (pa_cons (pe_fld (pe_ix ix_list (pv 0) (pv 1) (fun _ _ => rfl)) rfl) pa_nil))) pa_nil)))))), ?_⟩)⟩
  · obtain ⟨t, j, l, rfl, _⟩ := h
    rfl
  · obtain ⟨t, j, l, rfl, TA, h20, hj, q⟩ := h
    obtain ⟨as, ht, hl, hN⟩ := id TA
    obtain ⟨n, hn⟩ := get_of_lt hj
    obtain ⟨a, ha⟩ := get_of_lt (l := as) (by rw [hl]; exact hj)
    obtain ⟨dx, c, h1, h2⟩ := hN j a n ha hn
    have hx : atI (as.map V.ref) (j : Int) = some (.ref a) := atI_nat (by rw [List.getElem?_map, ha]; rfl)
    dsimp only [tSeq, tIfS, tNext, tB, tTest, tEqI, tNeI, tLt, tLe, tGt, tGe, tCmp, t2I, tAsg, tDrop, tRet, gName, tCons, tNil, tBM, tCB, tOp, tCallG, tCallGS, tMethG, tMakeG, tSl, tPart, tNoPart, tLst, tTup, tNot, tNotV, tAnd, tOr, tAndV, tOrV, tIf, tIsN, tNotN, tC, tUn, rU, rI, rI0]
    refine ⟨_, rfl, _, rfl, _, rfl, _, rfl, t, _, _, _, rfl, rfl, SqL.of ht, hx, a, CN, dx, _, _, rfl, h1, T.clN, T.nSo, nF_so n c, _, rfl, ?_⟩
    refine ⟨_, rfl, _, rfl, t, _, _, _, rfl, rfl, SqL.of ht, hx, a, CN, dx, _, _, rfl, h1, T.clN, T.nMis, nF_mis n c, ?_⟩
    refine ⟨_, _, rfl, fun H1 p s1 n1 N1 => ?_⟩
    refine ⟨t, j, p, l, _, rfl, TA.same s1, h20, hj, N1, fun H2 p2 s2 n2 T2 => ?_⟩
    refine q H2 p2 (s1.trans s2) (s1.free n2) ?_
    unfold flipd
    rw [nd_eq hn]
    exact T2
theorem ok_misread_so (T : Txt K mg CN CR CH CK) (F : GFun K mg "misread_so" s_misread_so ["tree", "number", "misread"]) (G_put_at : GOk P w K mg base CX0 1 "put_at" ["tree", "number", "node"] (spPutAt CN)) (G_new_leaf : GOk P w K mg base CX0 3 "new_leaf" ["is_so", "misread"] (spNewLeaf CN)) :
    GOk P w K mg base CX0 4 "misread_so" ["tree", "number", "misread"] (spMisr CN) := by
  obtain ⟨f, fd, hm, hk, hb, F⟩ := F
  refine ⟨f, fd, hm, hk, hb, F.ok sc_misread_so (fun vs H Q E h => ?_) (fun cdv A outer s H vs Q E hr h => ⟨_, (pss_one (ps_ret (pe_callG G_put_at (hr.mono (by decide)) rfl pass0 (pa_cons (pv 0) (pa_cons (pv 1) (pa_cons (pe_callG G_new_leaf (hr.mono (by decide)) rfl pass0 (pa_cons (pe_fld (pe_ix ix_list (pv 0) (pv 1) (fun _ _ => rfl)) rfl) (pa_cons (pv 2) pa_nil))) pa_nil)))))), ?_⟩)⟩
  · obtain ⟨t, j, w, l, rfl, _⟩ := h
    rfl
  · obtain ⟨t, j, w, l, rfl, TA, h20, hj, q⟩ := h
    obtain ⟨as, ht, hl, hN⟩ := id TA
    obtain ⟨n, hn⟩ := get_of_lt hj
    obtain ⟨a, ha⟩ := get_of_lt (l := as) (by rw [hl]; exact hj)
    obtain ⟨dx, c, h1, h2⟩ := hN j a n ha hn
    have hx : atI (as.map V.ref) (j : Int) = some (.ref a) := atI_nat (by rw [List.getElem?_map, ha]; rfl)
    dsimp only [tSeq, tIfS, tNext, tB, tTest, tEqI, tNeI, tLt, tLe, tGt, tGe, tCmp, t2I, tAsg, tDrop, tRet, gName, tCons, tNil, tBM, tCB, tOp, tCallG, tCallGS, tMethG, tMakeG, tSl, tPart, tNoPart, tLst, tTup, tNot, tNotV, tAnd, tOr, tAndV, tOrV, tIf, tIsN, tNotN, tC, tUn, rU, rI, rI0]
    refine ⟨_, rfl, _, rfl, _, rfl, _, rfl, t, _, _, _, rfl, rfl, SqL.of ht, hx, a, CN, dx, _, _, rfl, h1, T.clN, T.nSo, nF_so n c, _, rfl, ?_⟩
    refine ⟨_, _, rfl, fun H1 p s1 n1 N1 => ?_⟩
    refine ⟨t, j, p, l, _, rfl, TA.same s1, h20, hj, N1, fun H2 p2 s2 n2 T2 => ?_⟩
    refine q H2 p2 (s1.trans s2) (s1.free n2) ?_
    unfold misr
    rw [nd_eq hn]
    exact T2
theorem ok_truths (T : Txt K mg CN CR CH CK) (F : GFun K mg "truths" s_truths ["tree"]) : GOk P w K mg base CX0 1 "truths" ["tree"] (spTruths CN) := by
  obtain ⟨f, fd, hm, hk, hb, F⟩ := F
  refine ⟨f, fd, hm, hk, hb, F.ok sc_truths (fun vs H Q E h => ?_) (fun cdv A outer s H vs Q E hr h => ⟨_, (pss_cons (ps_set (i := 1) sc_truths.nd rfl (Or.inr rfl) (pe_lst pa_nil)) (pss_cons (ps_for PassesOwn.never rfl (pi_list (pv 0)) (pg_name (i := 2) sc_truths.nd rfl (Or.inl rfl)) (pss_one (ps_if (pt_cmp (pc_eqI (pe_fld (pv 2) rfl) (pe_cI T.LEAF)) (by rfl)) (pss_one (ps_expr (pe_bm PySem.F.plainAttrs_list PySem.F.slot_list_append PySem.F.type_list_append mt_append (pv 1) (pa_cons (pe_fld (pv 2) rfl) pa_nil)))) (pss_one (ps_if (pt_cmp (pc_eqI (pe_fld (pv 2) rfl) (pe_cI T.ALL)) (by rfl)) (pss_one (ps_expr (pe_bm PySem.F.plainAttrs_list PySem.F.slot_list_append PySem.F.type_list_append mt_append (pv 1) (pa_cons (pe_callB (cr_all rfl) (by rfl) T.all (by decide +kernel) (pa_cons (pe_lc (own := [("child", 3)]) (g := gName 3) (tt := tYes) rfl sc_truths.nd (te := (tOp (rIxL K) (tVar 1) (tVar 3))) (pi_list (pe_fld (pv 2) rfl)) (blkOk_by (own := [("child", 3)]) (N := ["tree", "found", "node", "child"]) (sc := defScope s_truths) (by decide +kernel)) (fun _ _ _ _ _ => (pg_name (i := 3) sc_truths.nd rfl (Or.inl rfl))) (fun _ _ _ _ _ => pts_nil) (fun _ _ _ _ _ => (pe_ix ix_list (pv 1) (pv 3) (fun _ _ => rfl)))) pa_nil)) pa_nil)))) (pss_one (ps_expr (pe_bm PySem.F.plainAttrs_list PySem.F.slot_list_append PySem.F.type_list_append mt_append (pv 1) (pa_cons (pe_callB (cr_any rfl) (by rfl) T.any (by decide +kernel) (pa_cons (pe_lc (own := [("child", 3)]) (g := gName 3) (tt := tYes) rfl sc_truths.nd (te := (tOp (rIxL K) (tVar 1) (tVar 3))) (pi_list (pe_fld (pv 2) rfl)) (blkOk_by (own := [("child", 3)]) (N := ["tree", "found", "node", "child"]) (sc := defScope s_truths) (by decide +kernel)) (fun _ _ _ _ _ => (pg_name (i := 3) sc_truths.nd rfl (Or.inl rfl))) (fun _ _ _ _ _ => pts_nil) (fun _ _ _ _ _ => (pe_ix ix_list (pv 1) (pv 3) (fun _ _ => rfl)))) pa_nil)) pa_nil))))))))) (pss_one (ps_ret (pv 1))))), ?_⟩)⟩
  · obtain ⟨t, l, rfl, _⟩ := h
    rfl
  · obtain ⟨t, l, rfl, ⟨as, ht, hl, hN⟩, W, q⟩ := h
    dsimp only [tSeq, tIfS, tNext, tB, tTest, tEqI, tNeI, tLt, tLe, tGt, tGe, tCmp, t2I, tAsg, tDrop, tRet, gName, tCons, tNil, tBM, tCB, tOp, tCallG, tCallGS, tMethG, tMakeG, tSl, tPart, tNoPart, tLst, tTup, tNot, tNotV, tAnd, tOr, tAndV, tOrV, tIf, tIsN, tNotN, tC, tUn, rU, rI, rI0]
    refine ⟨small (Nat.zero_le _), fun p np => ?_⟩
    generalize e_H1 : upd H p _ = H1; have s1 : Same H H1 := e_H1 ▸ same_new np; have g1 := e_H1 ▸ (upd_same : upd H p _ p = some _)
    refine ⟨_, rfl, t, rfl, ⟨_, SqL.of (s1 _ _ ht)⟩, for_list (K := K) (a := t) (xs := as.map V.ref)
      (fun i σ H' => ∃ v : Option V, σ = [some (.ref t), some (.ref p), v, none] ∧ Same H H' ∧ H' p = some (.lst (bls (truths (l.take i)))))
      ⟨none, rfl, s1, g1⟩ (fun i σ H' _ ⟨_, _, s5, _⟩ => SqL.of (s5 _ _ ht)) ?_ ?_⟩
    · rintro i x σ H' hi ⟨v, rfl, s5, hp⟩
      obtain ⟨a, n, rfl, hn, N⟩ := TreeAt.turn hl hN s5 hi
      have step : truths (l.take (i + 1)) = truths (l.take i) ++ [truthF (truths (l.take i)) n] := tab_more hn
      have kl := kids_lt (f := truthF) W hn
      have sz : (bls (truths (l.take i))).length < sizeLine := by
        unfold bls
        rw [List.length_map]
        show (tab truthF (l.take i)).length < _
        rw [take_len hn]
        exact smallT (by have := lt_of_get hn; have := W.len; omega)
      have fin : ∀ (b : Bool) (H2 : Hp), truthF (truths (l.take i)) n = b → Same H' H2 → ∃ v : Option V, ([some (.ref t), some (.ref p), some (.ref a), none] : List (Option V)) = [some (.ref t), some (.ref p), v, none] ∧ Same H (upd H2 p (.lst (bls (truths (l.take i)) ++ [V.bl b]))) ∧
          (upd H2 p (.lst (bls (truths (l.take i)) ++ [V.bl b]))) p = some (.lst (bls (truths (l.take (i + 1))))) := by
        intro b H2 e s2
        refine ⟨_, rfl, same_late (s5.trans s2) np, ?_⟩
        rw [upd_same, step, e]
        unfold bls
        rw [List.map_append]
        rfl
      dsimp only [tSeq, tIfS, tNext, tB, tTest, tEqI, tNeI, tLt, tLe, tGt, tGe, tCmp, t2I, tAsg, tDrop, tRet, gName, tCons, tNil, tBM, tCB, tOp, tCallG, tCallGS, tMethG, tMakeG, tSl, tPart, tNoPart, tLst, tTup, tNot, tNotV, tAnd, tOr, tAndV, tOrV, tIf, tIsN, tNotN, tC, tUn, rU, rI, rI0]
      refine rdKindV T rfl N ⟨_, _, rfl, rfl, _, rfl, ?_⟩
      refine ite2 (fun c => ?_) (fun c => ?_)
      · have c0 : n.kind = 0 := by have := of_decide_eq_true c; omega
        refine ⟨_, rfl, .inl ⟨rfl, _, SqL.of hp⟩, rdSoV T rfl N ⟨p, _, _, rfl, rfl, hp, sz, ?_⟩⟩
        exact fin _ H' (by rw [truthF_def, if_pos c0]) (Same.refl _)
      · have c0 : ¬ n.kind = 0 := fun z => c (decide_eq_true (by omega))
        have U : UpOk i n := (W.node i n hn).resolve_left fun L => c0 L.1
        refine rdKindV T rfl N ⟨_, _, rfl, rfl, _, rfl, ?_⟩
        refine ite2 (fun c => ?_) (fun c => ?_)
        · have c1 : n.kind = 1 := by have := of_decide_eq_true c; omega
          refine ⟨_, rfl, .inl ⟨rfl, _, SqL.of hp⟩, rdGather T (p := p) rfl (by decide) (by show 3 < 4; decide) rfl N (W.kids4 hn) hp (by unfold bls; rw [List.length_map]; exact kl) fun D hD => ?_⟩
          generalize e_H2 : upd H' D _ = H2; have s2 : Same H' H2 := e_H2 ▸ same_new hD; have g2 := e_H2 ▸ (upd_same : upd H' D _ D = some _)
          have e : (n.kids.map fun k => (bls (truths (l.take i))).getD k .non) = (n.kids.map fun k => (truths (l.take i)).getD k false).map V.bl := gather kl
          rw [e] at g2
          refine ⟨D, _, rfl, SqL.of g2, p, _, _, rfl, rfl, s2 _ _ hp, sz, ?_⟩
          exact fin _ H2 (by rw [truthF_def, if_neg c0, if_pos c1, List.all_map]; rfl) s2
        · have c1 : ¬ n.kind = 1 := fun z => c (decide_eq_true (by omega))
          refine ⟨_, rfl, .inl ⟨rfl, _, SqL.of hp⟩, rdGather T (p := p) rfl (by decide) (by show 3 < 4; decide) rfl N (W.kids4 hn) hp (by unfold bls; rw [List.length_map]; exact kl) fun D hD => ?_⟩
          generalize e_H2 : upd H' D _ = H2; have s2 : Same H' H2 := e_H2 ▸ same_new hD; have g2 := e_H2 ▸ (upd_same : upd H' D _ D = some _)
          have e : (n.kids.map fun k => (bls (truths (l.take i))).getD k .non) = (n.kids.map fun k => (truths (l.take i)).getD k false).map V.bl := gather kl
          rw [e] at g2
          refine ⟨D, _, rfl, SqL.of g2, p, _, _, rfl, rfl, s2 _ _ hp, sz, ?_⟩
          exact fin _ H2 (by rw [truthF_def, if_neg c0, if_neg c1, List.any_map]; rfl) s2
    · rintro σ H' ⟨v, rfl, s5, hp⟩
      rw [List.length_map, hl, List.take_length] at hp
      exact ⟨_, rfl, q H' p s5 np hp⟩
end
end Dis
end
section
set_option linter.all false
set_option maxRecDepth 100000
set_option maxHeartbeats 4000000
namespace Dis
open PySem PySem.Spec PyProof.Rows L2
open Kp365 (Node)
abbrev s_shortest : Stmt := top 15
theorem sc_shortest : FnScope ["rows", "found", "row"] ["rows"] (defScope s_shortest) := ⟨rfl, rfl, rfl, by decide +kernel, rfl, by decide +kernel, by decide +kernel⟩
abbrev s_proof_of : Stmt := top 14
theorem sc_proof_of : FnScope ["tree", "number", "is_true", "found", "node_number", "node", "alike", "child"] ["tree", "number"] (defScope s_proof_of) := ⟨rfl, rfl, rfl, by decide +kernel, rfl, by decide +kernel, by decide +kernel⟩
abbrev s_matters : Stmt := top 16
theorem sc_matters : FnScope ["tree", "number", "is_true", "leaf"] ["tree", "number"] (defScope s_matters) := ⟨rfl, rfl, rfl, by decide +kernel, rfl, by decide +kernel, by decide +kernel⟩
theorem flat_take {rows : List (List Nat)} {i : Nat} {r : List Nat} (h : rows[i]? = some r) : (rows.take (i + 1)).flatten = (rows.take i).flatten ++ r := by
  rw [take_snoc h, List.flatten_append]
  simp
theorem flat_le (rows : List (List Nat)) (i : Nat) : (rows.take i).flatten.length ≤ rows.flatten.length := by
  have e : rows.flatten = (rows.take i).flatten ++ (rows.drop i).flatten := by
    rw [← List.flatten_append, List.take_append_drop]
  rw [e, List.length_append]
  omega
theorem flatMap_flat {ks : List Nat} {f : Nat → List Nat} : ks.flatMap f = (ks.map f).flatten := rfl
theorem rows_gather {H : Hp} {as : List Addr} {rows : List (List Nat)} {ks : List Nat} (R : RowsAt H as rows) (h : ∀ k ∈ ks, k < rows.length) : RowsAt H (ks.map fun k => as.getD k 0) (ks.map fun k => rows.getD k []) := by
  refine ⟨by rw [List.length_map, List.length_map], fun i a r ha hr => ?_⟩
  rw [List.getElem?_map] at ha hr
  cases e : ks[i]? with
  | none =>
    rw [e] at ha
    cases ha
  | some k =>
    rw [e] at ha hr
    obtain ⟨b, q, hb, hq, hH⟩ := R.get (h k (List.mem_of_getElem? e))
    have e1 : as.getD k 0 = b := by rw [List.getD_eq_getElem?_getD, hb]; rfl
    have e2 : rows.getD k [] = q := by rw [List.getD_eq_getElem?_getD, hq]; rfl
    cases ha
    cases hr
    dsimp only
    rw [e1, e2]
    exact hH
/-- a growing list of rows -/
structure FoundAt (H : Hp) (p : Addr) (rs : List Addr) (rows : List (List Nat)) : Prop where
  at_ : H p = some (.lst (rs.map V.ref))
  rows : RowsAt H rs rows
  ne : ∀ a ∈ rs, a ≠ p
theorem FoundAt.same {H H' : Hp} {p : Addr} {rs : List Addr} {rows : List (List Nat)} (F : FoundAt H p rs rows) (s : Same H H') : FoundAt H' p rs rows := ⟨s _ _ F.at_, F.rows.same s, F.ne⟩
theorem FoundAt.push {H : Hp} {p D : Addr} {rs : List Addr} {rows : List (List Nat)} {r : List Nat} (F : FoundAt H p rs rows) (h : H D = some (.lst (vN r))) (ne : D ≠ p) :
    FoundAt (upd H p (.lst (rs.map V.ref ++ [V.ref D]))) p (rs ++ [D]) (rows ++ [r]) := by
  have ne2 : ∀ a ∈ rs ++ [D], a ≠ p := fun a ha => by
    rcases List.mem_append.mp ha with z | z
    · exact F.ne a z
    · rw [List.mem_singleton] at z
      rw [z]
      exact ne
  refine ⟨by rw [upd_same, List.map_append]; rfl, ⟨by rw [List.length_append, List.length_append, F.rows.1]; rfl, fun i a q ha hq => ?_⟩, ne2⟩
  rw [upd_ne (ne2 a (List.mem_of_getElem? ha))]
  exact (F.rows.snoc (Same.refl _) h).2 i a q ha hq
section
variable {P : Program} {w : World} {K : PySem.W.Frag} {mg : Str → Option Value} {base : Heap} {CN CR CH CK : Addr}
theorem ok_joined (T : Txt K mg CN CR CH CK) (F : GFun K mg "joined" s_joined ["rows"]) : GOk P w K mg base CX0 1 "joined" ["rows"] (spJoined K) := by
  obtain ⟨f, fd, hm, hk, hb, F⟩ := F
  refine ⟨f, fd, hm, hk, hb, F.ok sc_joined (fun vs H Q E h => ?_) (fun cdv A outer s H vs Q E hr h => ⟨_, (pss_cons (ps_set (i := 1) sc_joined.nd rfl (Or.inl rfl) (pe_lst pa_nil)) (pss_cons (ps_for PassesOwn.never rfl (pi_list (pv 0)) (pg_name (i := 2) sc_joined.nd rfl (Or.inl rfl)) (pss_one (ps_expr (pe_bm PySem.F.plainAttrs_list PySem.F.slot_list_extend PySem.F.type_list_extend mt_extend (pv 1) (pa_cons (pv 2) pa_nil))))) (pss_one (ps_ret (pv 1))))), ?_⟩)⟩
  · obtain ⟨r, as, rows, rfl, _⟩ := h
    rfl
  · obtain ⟨r, as, rows, rfl, hr', R, hz, q⟩ := h
    dsimp only [tSeq, tIfS, tNext, tB, tTest, tEqI, tNeI, tLt, tLe, tGt, tGe, tCmp, t2I, tAsg, tDrop, tRet, gName, tCons, tNil, tBM, tCB, tOp, tCallG, tCallGS, tMethG, tMakeG, tSl, tPart, tNoPart, tLst, tTup, tNot, tNotV, tAnd, tOr, tAndV, tOrV, tIf, tIsN, tNotN, tC, tUn, rU, rI, rI0]
    refine ⟨small (Nat.zero_le _), fun p np => ?_⟩
    generalize e_H1 : upd H p _ = H1; have s1 : Same H H1 := e_H1 ▸ same_new np; have g1 := e_H1 ▸ (upd_same : upd H p _ p = some _)
    refine ⟨_, rfl, r, rfl, ⟨_, SqL.of (s1 _ _ hr')⟩, for_list (K := K) (a := r) (xs := as.map V.ref)
      (fun i σ H' => ∃ v : Option V, σ = [some (.ref r), some (.ref p), v] ∧ Same H H' ∧ H' p = some (.lst (vN (rows.take i).flatten)))
      ⟨none, rfl, s1, g1⟩ (fun i σ H' _ ⟨_, _, s5, _⟩ => SqL.of (s5 _ _ hr')) ?_ ?_⟩
    · rintro i x σ H' hi ⟨v, rfl, s5, hp⟩
      obtain ⟨a, ha, rfl⟩ := of_refs hi
      obtain ⟨row, hrow⟩ := get_of_lt (l := rows) (by rw [← R.1]; exact lt_of_get ha)
      have hH := s5 _ _ (R.2 i a row ha hrow)
      have step := flat_take hrow
      have le := flat_le rows (i + 1)
      rw [step, List.length_append] at le
      dsimp only [tSeq, tIfS, tNext, tB, tTest, tEqI, tNeI, tLt, tLe, tGt, tGe, tCmp, t2I, tAsg, tDrop, tRet, gName, tCons, tNil, tBM, tCB, tOp, tCallG, tCallGS, tMethG, tMakeG, tSl, tPart, tNoPart, tLst, tTup, tNot, tNotV, tAnd, tOr, tAndV, tOrV, tIf, tIsN, tNotN, tC, tUn, rU, rI, rI0]
      refine ⟨_, rfl, .inl ⟨rfl, _, SqL.of hp⟩, _, rfl, p, a, _, _, rfl, rfl, hp, hH, by rw [vN_len, vN_len]; exact small (by omega), ?_⟩
      refine ⟨_, rfl, same_late s5 np, ?_⟩
      rw [upd_same, step, vN_app]
    · rintro σ H' ⟨v, rfl, s5, hp⟩
      rw [List.length_map, R.1, List.take_length] at hp
      exact ⟨_, rfl, q H' p s5 np hp⟩
theorem ok_leaves_of (T : Txt K mg CN CR CH CK) (F : GFun K mg "leaves_of" s_leaves_of ["tree", "number"]) (G_joined : GOk P w K mg base CX0 1 "joined" ["rows"] (spJoined K)) : GOk P w K mg base CX0 2 "leaves_of" ["tree", "number"] (spRow CN lv) := by
  obtain ⟨f, fd, hm, hk, hb, F⟩ := F
  refine ⟨f, fd, hm, hk, hb, F.ok sc_leaves_of (fun vs H Q E h => ?_) (fun cdv A outer s H vs Q E hr h => ⟨_, (pss_cons (ps_set (i := 2) sc_leaves_of.nd rfl (Or.inr rfl) (pe_lst pa_nil)) (pss_cons (ps_for PassesOwn.never rfl (pi_enum (by rfl) T.enumerate (pa_cons (pv 0) pa_nil)) (pg_tup rfl (pgs_cons (pg_name (i := 3) sc_leaves_of.nd rfl (Or.inl rfl)) (pgs_cons (pg_name (i := 4) sc_leaves_of.nd rfl (Or.inl rfl)) pgs_nil))) (pss_one (ps_if (pt_cmp (pc_eqI (pe_fld (pv 4) rfl) (pe_cI T.LEAF)) (by rfl)) (pss_one (ps_expr (pe_bm PySem.F.plainAttrs_list PySem.F.slot_list_append PySem.F.type_list_append mt_append (pv 2) (pa_cons (pe_lst (pa_cons (pv 3) pa_nil)) pa_nil)))) (pss_one (ps_expr (pe_bm PySem.F.plainAttrs_list PySem.F.slot_list_append PySem.F.type_list_append mt_append (pv 2) (pa_cons (pe_callG G_joined (hr.mono (by decide)) rfl pass0 (pa_cons (pe_lc (own := [("child", 5)]) (g := gName 5) (tt := tYes) rfl sc_leaves_of.nd (te := (tOp (rIxL K) (tVar 2) (tVar 5))) (pi_list (pe_fld (pv 4) rfl)) (blkOk_by (own := [("child", 5)]) (N := ["tree", "number", "found", "node_number", "node", "child"]) (sc := defScope s_leaves_of) (by decide +kernel)) (fun _ _ _ _ _ => (pg_name (i := 5) sc_leaves_of.nd rfl (Or.inl rfl))) (fun _ _ _ _ _ => pts_nil) (fun _ _ _ _ _ => (pe_ix ix_list (pv 2) (pv 5) (fun _ _ => rfl)))) pa_nil)) pa_nil))))))) (pss_one (ps_ret (pe_ix ix_list (pv 2) (pv 1) (fun _ _ => rfl)))))), ?_⟩)⟩
  · obtain ⟨t, i, l, rfl, _⟩ := h
    rfl
  · obtain ⟨t, i0, l, rfl, ⟨as, ht, hl, hN⟩, W, hi0, q⟩ := h
    dsimp only [tSeq, tIfS, tNext, tB, tTest, tEqI, tNeI, tLt, tLe, tGt, tGe, tCmp, t2I, tAsg, tDrop, tRet, gName, tCons, tNil, tBM, tCB, tOp, tCallG, tCallGS, tMethG, tMakeG, tSl, tPart, tNoPart, tLst, tTup, tNot, tNotV, tAnd, tOr, tAndV, tOrV, tIf, tIsN, tNotN, tC, tUn, rU, rI, rI0]
    refine ⟨small (Nat.zero_le _), fun p np => ?_⟩
    generalize e_H1 : upd H p _ = H1; have s1 : Same H H1 := e_H1 ▸ same_new np; have g1 := e_H1 ▸ (upd_same : upd H p _ p = some _)
    refine ⟨_, rfl, t, _, rfl, SqL.of (s1 _ _ ht), for_enum (K := K) (a := t) (xs := as.map V.ref)
      (fun i σ H' => ∃ (v1 v2 : Option V) (rs : List Addr), σ = [some (.ref t), some (.int (i0 : Nat)), some (.ref p), v1, v2, none] ∧ Same H H' ∧ FoundAt H' p rs (lvT (l.take i)))
      ⟨none, none, [], rfl, s1, g1, RowsAt.nil _, fun a z => by cases z⟩ (fun i σ H' ⟨_, _, _, _, s5, _⟩ => SqL.of (s5 _ _ ht)) ?_ ?_⟩
    · rintro i x Tp σ H' hi ⟨v1, v2, rs, rfl, s5, FA⟩ hT
      obtain ⟨a, n, rfl, hn, N⟩ := TreeAt.turn hl hN s5 hi
      generalize e_H0 : upd H' Tp _ = H0; have s0 : Same H' H0 := e_H0 ▸ same_new hT; have g0 := e_H0 ▸ (upd_same : upd H' Tp _ Tp = some _)
      have FA0 := FA.same s0
      have N0 := N.same s0
      have step : lvT (l.take (i + 1)) = lvT (l.take i) ++ [leavesF (lvT (l.take i)) n] := tab_more hn
      have kl := kids_lt (f := leavesF) W hn
      have ll : (lvT (l.take i)).length = i := take_len hn
      have len : rs.length = i := FA.rows.1.trans ll
      have i20 : i < 20 := by have := lt_of_get hn; have := W.len; omega
      have sz : (rs.map V.ref).length < sizeLine := by
        rw [List.length_map, len]
        exact smallT (by omega)
      have fin : ∀ (D : Addr) (H2 : Hp) (r : List Nat), leavesF (lvT (l.take i)) n = r → Same H0 H2 → H2 D = some (.lst (vN r)) → D ≠ p →
          ∃ (v1 v2 : Option V) (rs' : List Addr), ([some (.ref t), some (.int (i0 : Nat)), some (.ref p), some (.int (i : Nat)), some (.ref a), none] : List (Option V)) = [some (.ref t), some (.int (i0 : Nat)), some (.ref p), v1, v2, none] ∧ Same H (upd H2 p (.lst (rs.map V.ref ++ [V.ref D]))) ∧
          FoundAt (upd H2 p (.lst (rs.map V.ref ++ [V.ref D]))) p rs' (lvT (l.take (i + 1))) := by
        intro D H2 r e s2 hD ne
        refine ⟨_, _, rs ++ [D], rfl, same_late ((s5.trans s0).trans s2) np, ?_⟩
        rw [step, e]
        exact (FA0.same s2).push hD ne
      dsimp only [tSeq, tIfS, tNext, tB, tTest, tEqI, tNeI, tLt, tLe, tGt, tGe, tCmp, t2I, tAsg, tDrop, tRet, gName, tCons, tNil, tBM, tCB, tOp, tCallG, tCallGS, tMethG, tMakeG, tSl, tPart, tNoPart, tLst, tTup, tNot, tNotV, tAnd, tOr, tAndV, tOrV, tIf, tIsN, tNotN, tC, tUn, rU, rI, rI0]
      refine ⟨_, _, rfl, SqT.of g0, rfl, _, _, rfl, _, _, rfl, rfl, ?_⟩
      dsimp only [tSeq, tIfS, tNext, tB, tTest, tEqI, tNeI, tLt, tLe, tGt, tGe, tCmp, t2I, tAsg, tDrop, tRet, gName, tCons, tNil, tBM, tCB, tOp, tCallG, tCallGS, tMethG, tMakeG, tSl, tPart, tNoPart, tLst, tTup, tNot, tNotV, tAnd, tOr, tAndV, tOrV, tIf, tIsN, tNotN, tC, tUn, rU, rI, rI0]
      refine rdKindV T rfl N0 ⟨_, _, rfl, rfl, _, rfl, ?_⟩
      refine ite2 (fun c => ?_) (fun c => ?_)
      · have c0 : n.kind = 0 := by have := of_decide_eq_true c; omega
        refine ⟨_, rfl, .inl ⟨rfl, _, SqL.of FA0.at_⟩, _, rfl, small (by show 1 ≤ 100000; decide), fun D hD => ?_⟩
        generalize e_H2 : upd H0 D _ = H2; have s2 : Same H0 H2 := e_H2 ▸ same_new hD; have g2 := e_H2 ▸ (upd_same : upd H0 D _ D = some _)
        refine ⟨p, _, _, rfl, rfl, s2 _ _ FA0.at_, sz, ?_⟩
        exact fin D H2 [i] (by rw [leavesF_def, if_pos c0, ll]) s2 g2 (Ne.symm (ne_of_none FA0.at_ hD))
      · have c0 : ¬ n.kind = 0 := fun z => c (decide_eq_true (by omega))
        refine ⟨_, rfl, .inl ⟨rfl, _, SqL.of FA0.at_⟩, rdGather T (p := p) rfl (by decide) (by show 5 < 6; decide) rfl N0 (W.kids4 hn) FA0.at_ (by rw [List.length_map, len]; intro k hk'; have := kl k hk'; rw [take_len hn] at this; exact this) fun D hD => ?_⟩
        generalize e_H2 : upd H0 D _ = H2; have s2 : Same H0 H2 := e_H2 ▸ same_new hD; have g2 := e_H2 ▸ (upd_same : upd H0 D _ D = some _)
        have kl2 : ∀ k ∈ n.kids, k < rs.length := fun k hk' => by
          have := kl k hk'
          rw [take_len hn] at this
          omega
        have e : (n.kids.map fun k => (rs.map V.ref).getD k .non) = (n.kids.map fun k => rs.getD k 0).map V.ref := gather kl2
        rw [e] at g2
        have R2 := rows_gather (FA0.rows.same s2) kl
        have fl : (n.kids.map fun k => (lvT (l.take i)).getD k []).flatten.length ≤ 10000 := by
          have h1 : (lv l i) = (n.kids.map fun k => (lvT (l.take i)).getD k []).flatten := by
            unfold lv lvT
            rw [tab_getD hn, leavesF_def, if_neg c0]
            rfl
          have := lv_20 l W i (lt_of_get hn)
          rw [h1] at this
          omega
        refine ⟨D, _, _, rfl, g2, R2, fl, fun H3 p3 s3 n3 g3 => ?_⟩
        have hp3 := s3 _ _ (s2 _ _ FA0.at_)
        refine ⟨p, _, _, rfl, rfl, hp3, sz, ?_⟩
        refine fin p3 H3 _ (by rw [leavesF_def, if_neg c0]; rfl) (s2.trans s3) g3 ?_
        exact Ne.symm (ne_of_none (s2 _ _ FA0.at_) n3)
    · rintro σ H' ⟨v1, v2, rs, rfl, s5, FA⟩
      rw [List.length_map, hl, List.take_length] at FA
      have hi1 : i0 < (lvT l).length := by
        unfold lvT
        rw [tab_len]
        exact hi0
      obtain ⟨b, r, hb', hr', hH⟩ := FA.rows.get hi1
      have e : lv l i0 = r := by
        unfold lv
        rw [List.getD_eq_getElem?_getD, hr']
        rfl
      refine ⟨_, rfl, _, rfl, p, _, _, _, rfl, rfl, SqL.of FA.at_, atI_nat (by rw [List.getElem?_map, hb']; rfl), ?_⟩
      refine q H' b s5 ?_
      rw [e]
      exact hH
end
end Dis
end
section
set_option linter.all false
set_option maxRecDepth 100000
set_option maxHeartbeats 4000000
namespace Dis
open PySem PySem.Spec PyProof.Rows L2
open Kp365 (Node)
theorem int_max {ks : List Nat} {m : Int} (h : m ∈ ks.map fun k => ((k : Nat) : Int)) (hle : ∀ y, y ∈ (ks.map fun k => ((k : Nat) : Int)) → y ≤ m) : m = ((maxL ks : Nat) : Int) := by
  obtain ⟨k, hk, rfl⟩ := List.mem_map.mp h
  rw [maxL_is hk fun x hx => by have := hle _ (List.mem_map.mpr ⟨x, hx, rfl⟩); omega]
theorem int_min {ks : List Nat} {m : Int} (hb : ∀ k ∈ ks, k ≤ 100) (h : m ∈ ks.map fun k => ((k : Nat) : Int)) (hle : ∀ y, y ∈ (ks.map fun k => ((k : Nat) : Int)) → m ≤ y) : m = ((minL ks : Nat) : Int) := by
  obtain ⟨k, hk, rfl⟩ := List.mem_map.mp h
  rw [minL_is hk (hb k hk) fun x hx => by have := hle _ (List.mem_map.mpr ⟨x, hx, rfl⟩); omega]
section
variable {K : PySem.W.Frag} {mg : Str → Option Value} {CN CR CH CK : Addr} {σ : L2.St} {H : Hp} {i : Nat} {a : Addr} {n : Node}
/-- [1 + found[child] for child in node.children] -/
theorem rdGather1 (T : Txt K mg CN CR CH CK) {f c : Nat} {p : Addr} {xs : List Nat} {Q : VK} (hf : σ[f]? = some (some (.ref p))) (hfc : f ≠ c) (hc : c < σ.length) (h : σ[i]? = some (some (.ref a))) (N : NodeAt CN H a n) (h4 : n.kids.length ≤ 4)
    (hp : H p = some (.lst (vN xs))) (hk : ∀ k ∈ n.kids, k < xs.length) (q : ∀ D, H D = none → Q (.ref D) (upd H D (.lst (vN (n.kids.map fun k => 1 + xs.getD k 0))))) :
    tLc (iList K (tFld K (tVar i) "children")) (gName c) tYes (tOp (rI0 fun i j => .int (i + j)) (tC (.int 1)) (tOp (rIxL K) (tVar f) (tVar c))) [c] σ H Q := by
  obtain ⟨dx, cc, h1, hcc⟩ := N
  refine ⟨_, h, a, CN, dx, _, _, rfl, h1, T.clN, T.nKids, nF_kids n cc, cc, rfl, ⟨_, SqL.of hcc⟩, fun D hD => ?_⟩
  have nD : cc ≠ D := ne_of_none hcc hD
  have pD : p ≠ D := ne_of_none hp hD
  refine lc_list (K := K) (a := cc) (xs := vN n.kids) (fun j H' => H' = upd H D (.lst (vN ((n.kids.take j).map fun k => 1 + xs.getD k 0)))) rfl (fun j H' _ e => ?_) ?_ ?_
  · rw [e]
    exact SqL.of (by rw [upd_ne nD]; exact hcc)
  · intro j x H' hx e
    obtain ⟨k, hk', rfl⟩ := of_vN hx
    subst e
    have hkl := hk k (List.mem_of_getElem? hk')
    have hw : (wipe σ [c]) = σ.set c none := rfl
    refine ⟨?_, .ref p, ?_, V.int (k : Nat), ?_, p, vN xs, _, V.int (xs[k] : Nat), rfl, rfl, SqL.of (by rw [upd_ne pD]; exact hp), atI_nat (vN_get (List.getElem?_eq_getElem hkl)), _, _, rfl, rfl, _, upd_same, ?_, ?_⟩
    · rw [hw]
      show ((σ.set c none).set c (some (V.int (k : Nat)))).set c none = σ.set c none
      rw [List.set_set, List.set_set]
    · rw [hw, List.set_set, List.getElem?_set_ne (Ne.symm hfc)]
      exact hf
    · rw [hw, List.set_set]
      exact List.getElem?_set_self hc
    · rw [vN_len, List.length_map, List.length_take]
      exact smallT (by omega)
    · rw [upd_upd, take_snoc hk', List.map_append, vN_app]
      have e : xs.getD k 0 = xs[k] := by rw [List.getD_eq_getElem?_getD, List.getElem?_eq_getElem hkl]; rfl
      have e2 : (1 : Int) + ((xs[k] : Nat) : Int) = ((1 + xs[k] : Nat) : Int) := by omega
      show upd H D (.lst (_ ++ [V.int ((1 : Int) + ((xs[k] : Nat) : Int))])) = upd H D (.lst (_ ++ [V.int ((1 + xs.getD k 0 : Nat) : Int)]))
      rw [e, e2]
  · intro H' e
    rw [vN_len, List.take_length] at e
    rw [e]
    exact q D hD
/-- [found[child] for child in node.children if is_true[child] == is_true[node_number]] -/
theorem rdAlike (T : Txt K mg CN CR CH CK) {f c t m : Nat} {p pt : Addr} {xs : List V} {bs : List Bool} {z : Nat} {Q : VK} (hf : σ[f]? = some (some (.ref p))) (hfc : f ≠ c) (hc : c < σ.length) (h : σ[i]? = some (some (.ref a))) (N : NodeAt CN H a n) (h4 : n.kids.length ≤ 4)
    (hp : H p = some (.lst xs)) (hk : ∀ k ∈ n.kids, k < xs.length) (ht : σ[t]? = some (some (.ref pt))) (htc : t ≠ c) (hpt : H pt = some (.lst (bls bs))) (hb : ∀ k ∈ n.kids, k < bs.length) (hm : σ[m]? = some (some (.int (z : Nat)))) (hmc : m ≠ c) (hz : z < bs.length)
    (q : ∀ D, H D = none → Q (.ref D) (upd H D (.lst ((n.kids.filter fun k => bs.getD k false == bs.getD z false).map fun k => xs.getD k .non)))) :
    tLc (iList K (tFld K (tVar i) "children")) (gName c) (tTest (tOp rEq (tOp (rIxL K) (tVar t) (tVar c)) (tOp (rIxL K) (tVar t) (tVar m)))) (tOp (rIxL K) (tVar f) (tVar c)) [c] σ H Q := by
  obtain ⟨dx, cc, h1, hcc⟩ := N
  refine ⟨_, h, a, CN, dx, _, _, rfl, h1, T.clN, T.nKids, nF_kids n cc, cc, rfl, ⟨_, SqL.of hcc⟩, fun D hD => ?_⟩
  have nD : cc ≠ D := ne_of_none hcc hD
  have pD : p ≠ D := ne_of_none hp hD
  have tD : pt ≠ D := ne_of_none hpt hD
  refine lc_list (K := K) (a := cc) (xs := vN n.kids) (fun j H' => H' = upd H D (.lst (((n.kids.take j).filter fun k => bs.getD k false == bs.getD z false).map fun k => xs.getD k .non))) rfl (fun j H' _ e => ?_) ?_ ?_
  · rw [e]
    exact SqL.of (by rw [upd_ne nD]; exact hcc)
  · intro j x H' hx e
    obtain ⟨k, hk', rfl⟩ := of_vN hx
    subst e
    have hkl := hk k (List.mem_of_getElem? hk')
    have hbl := hb k (List.mem_of_getElem? hk')
    have hw : (wipe σ [c]) = σ.set c none := rfl
    have gb : ∀ {y : Nat}, y < bs.length → atI (bls bs) (y : Int) = some (.bl (bs.getD y false)) := fun {y} hy => atI_nat (by
      unfold bls
      rw [List.getElem?_map, List.getD_eq_getElem?_getD, List.getElem?_eq_getElem hy]
      rfl)
    have vc : ((wipe σ [c]).set c (some (V.int (k : Nat))))[c]? = some (some (V.int (k : Nat))) := by
      rw [hw, List.set_set]
      exact List.getElem?_set_self hc
    have vo : ∀ {y : Nat} {v : V}, y ≠ c → σ[y]? = some (some v) → ((wipe σ [c]).set c (some (V.int (k : Nat))))[y]? = some (some v) := fun {y v} hy hv => by
      rw [hw, List.set_set, List.getElem?_set_ne (Ne.symm hy)]
      exact hv
    have tk : (n.kids.take (j + 1)).filter (fun k => bs.getD k false == bs.getD z false) = (n.kids.take j).filter (fun k => bs.getD k false == bs.getD z false) ++ (if (bs.getD k false == bs.getD z false) = true then [k] else []) := by
      rw [take_snoc hk', List.filter_append]
      congr 1
      cases hbz : (bs.getD k false == bs.getD z false) with
      | true => rw [List.filter_cons_of_pos (p := fun k => bs.getD k false == bs.getD z false) hbz, if_pos rfl]; rfl
      | false => rw [List.filter_cons_of_neg (p := fun k => bs.getD k false == bs.getD z false) (by rw [hbz]; decide), if_neg (by decide)]; rfl
    refine ⟨?_, _, vo htc ht, _, vc, pt, _, _, _, rfl, rfl, SqL.of (by rw [upd_ne tD]; exact hpt), gb hbl, _, vo htc ht, _, vo hmc hm, pt, _, _, _, rfl, rfl, SqL.of (by rw [upd_ne tD]; exact hpt), gb hz, rfl, _, rfl, ?_⟩
    · rw [hw]
      show ((σ.set c none).set c (some (V.int (k : Nat)))).set c none = σ.set c none
      rw [List.set_set, List.set_set]
    · refine ite2 (fun cnd => ?_) (fun cnd => ?_)
      · have cb : (bs.getD k false == bs.getD z false) = true := by
          have := of_decide_eq_true cnd
          rw [V.bl.inj this]
          exact beq_self_eq_true _
        refine ⟨_, vo hfc hf, _, vc, p, xs, _, xs[k], rfl, rfl, SqL.of (by rw [upd_ne pD]; exact hp), atI_nat (List.getElem?_eq_getElem hkl), _, upd_same, ?_, ?_⟩
        · rw [List.length_map]
          have := List.length_filter_le (fun k => bs.getD k false == bs.getD z false) (n.kids.take j)
          rw [List.length_take] at this
          exact smallT (by omega)
        · rw [upd_upd, tk, if_pos cb, List.map_append]
          show _ = upd H D (.lst (_ ++ [xs.getD k .non]))
          have e : xs.getD k .non = xs[k] := by rw [List.getD_eq_getElem?_getD, List.getElem?_eq_getElem hkl]; rfl
          rw [e]
      · have cb : ¬ (bs.getD k false == bs.getD z false) = true := fun y => cnd (decide_eq_true (by rw [eq_of_beq y]))
        rw [tk, if_neg cb, List.append_nil]
  · intro H' e
    rw [vN_len, List.take_length] at e
    rw [e]
    exact q D hD
end
section
variable {P : Program} {w : World} {K : PySem.W.Frag} {mg : Str → Option Value} {base : Heap} {CN CR CH CK : Addr}
theorem ok_depth_of (T : Txt K mg CN CR CH CK) (F : GFun K mg "depth_of" s_depth_of ["tree", "number"]) : GOk P w K mg base CX0 1 "depth_of" ["tree", "number"] (spNum CN dp) := by
  obtain ⟨f, fd, hm, hk, hb, F⟩ := F
  refine ⟨f, fd, hm, hk, hb, F.ok sc_depth_of (fun vs H Q E h => ?_) (fun cdv A outer s H vs Q E hr h => ⟨_, (pss_cons (ps_set (i := 2) sc_depth_of.nd rfl (Or.inr rfl) (pe_lst pa_nil)) (pss_cons (ps_for PassesOwn.never rfl (pi_list (pv 0)) (pg_name (i := 3) sc_depth_of.nd rfl (Or.inl rfl)) (pss_one (ps_expr (pe_bm PySem.F.plainAttrs_list PySem.F.slot_list_append PySem.F.type_list_append mt_append (pv 2) (pa_cons (pe_callB (cr_max rfl) (by rfl) T.max (by decide +kernel) (pa_cons (pe_op op_cat (pe_lst (pa_cons pe_int pa_nil)) (pe_lc (own := [("child", 4)]) (g := gName 4) (tt := tYes) rfl sc_depth_of.nd (te := (tOp (rI0 fun i j => .int (i + j)) (tC (.int 1)) (tOp (rIxL K) (tVar 2) (tVar 4)))) (pi_list (pe_fld (pv 3) rfl)) (blkOk_by (own := [("child", 4)]) (N := ["tree", "number", "found", "node", "child"]) (sc := defScope s_depth_of) (by decide +kernel)) (fun _ _ _ _ _ => (pg_name (i := 4) sc_depth_of.nd rfl (Or.inl rfl))) (fun _ _ _ _ _ => pts_nil) (fun _ _ _ _ _ => (pe_op op_add pe_int (pe_ix ix_list (pv 2) (pv 4) (fun _ _ => rfl)))))) pa_nil)) pa_nil))))) (pss_one (ps_ret (pe_ix ix_list (pv 2) (pv 1) (fun _ _ => rfl)))))), ?_⟩)⟩
  · obtain ⟨t, i, l, rfl, _⟩ := h
    rfl
  · obtain ⟨t, i0, l, rfl, ⟨as, ht, hl, hN⟩, W, hi0, q⟩ := h
    dsimp only [tSeq, tIfS, tNext, tB, tTest, tEqI, tNeI, tLt, tLe, tGt, tGe, tCmp, t2I, tAsg, tDrop, tRet, gName, tCons, tNil, tBM, tCB, tOp, tCallG, tCallGS, tMethG, tMakeG, tSl, tPart, tNoPart, tLst, tTup, tNot, tNotV, tAnd, tOr, tAndV, tOrV, tIf, tIsN, tNotN, tC, tUn, rU, rI, rI0]
    refine ⟨small (Nat.zero_le _), fun p np => ?_⟩
    generalize e_H1 : upd H p _ = H1; have s1 : Same H H1 := e_H1 ▸ same_new np; have g1 := e_H1 ▸ (upd_same : upd H p _ p = some _)
    refine ⟨_, rfl, t, rfl, ⟨_, SqL.of (s1 _ _ ht)⟩, for_list (K := K) (a := t) (xs := as.map V.ref)
      (fun i σ H' => ∃ v : Option V, σ = [some (.ref t), some (.int (i0 : Nat)), some (.ref p), v, none] ∧ Same H H' ∧ H' p = some (.lst (vN (dpT (l.take i)))))
      ⟨none, rfl, s1, g1⟩ (fun i σ H' _ ⟨_, _, s5, _⟩ => SqL.of (s5 _ _ ht)) ?_ ?_⟩
    · rintro i x σ H' hi ⟨v, rfl, s5, hp⟩
      obtain ⟨a, n, rfl, hn, N⟩ := TreeAt.turn hl hN s5 hi
      have step : dpT (l.take (i + 1)) = dpT (l.take i) ++ [depthF (dpT (l.take i)) n] := tab_more hn
      have kl := kids_lt (f := depthF) W hn
      have sz : (vN (dpT (l.take i))).length < sizeLine := by
        rw [vN_len]
        show (tab depthF (l.take i)).length < _
        rw [take_len hn]
        exact smallT (by have := lt_of_get hn; have := W.len; omega)
      have k4 := W.kids4 hn
      dsimp only [tSeq, tIfS, tNext, tB, tTest, tEqI, tNeI, tLt, tLe, tGt, tGe, tCmp, t2I, tAsg, tDrop, tRet, gName, tCons, tNil, tBM, tCB, tOp, tCallG, tCallGS, tMethG, tMakeG, tSl, tPart, tNoPart, tLst, tTup, tNot, tNotV, tAnd, tOr, tAndV, tOrV, tIf, tIsN, tNotN, tC, tUn, rU, rI, rI0]
      refine ⟨_, rfl, .inl ⟨rfl, _, SqL.of hp⟩, small (by show 1 ≤ 100000; decide), fun pz nz => ?_⟩
      generalize e_H2 : upd H' pz _ = H2; have s2 : Same H' H2 := e_H2 ▸ same_new nz; have g2 := e_H2 ▸ (upd_same : upd H' pz _ pz = some _)
      refine rdGather1 T (p := p) rfl (by decide) (by show 4 < 5; decide) rfl (N.same s2) k4 (s2 _ _ hp) kl fun D hD => ?_
      generalize e_H3 : upd H2 D _ = H3; have s3 : Same H2 H3 := e_H3 ▸ same_new hD; have g3 := e_H3 ▸ (upd_same : upd H2 D _ D = some _)
      refine ⟨pz, D, _, _, rfl, rfl, s3 _ _ g2, g3, by rw [vN_len, List.length_map]; exact small (by show 1 + _ ≤ _; omega), fun p4 n4 => ?_⟩
      generalize e_H4 : upd H3 p4 _ = H4; have s4 : Same H3 H4 := e_H4 ▸ same_new n4; have g4 := e_H4 ▸ (upd_same : upd H3 p4 _ p4 = some _)
      refine ⟨p4, (0 :: n.kids.map fun k => 1 + (dpT (l.take i)).getD k 0).map fun k => ((k : Nat) : Int), rfl, SqL.of (by rw [g4, ← vN_int]; rfl), by simp, fun m hm hle => ?_⟩
      have em := int_max hm hle
      have s24 := (s2.trans s3).trans s4
      refine ⟨p, _, _, rfl, rfl, s24 _ _ hp, sz, _, rfl, same_late (s5.trans s24) np, ?_⟩
      rw [upd_same, step, depthF_def, vN_app, em]
      rfl
    · rintro σ H' ⟨v, rfl, s5, hp⟩
      rw [List.length_map, hl, List.take_length] at hp
      have hi1 : i0 < (dpT l).length := by
        unfold dpT
        rw [tab_len]
        exact hi0
      refine ⟨_, rfl, _, rfl, p, _, _, _, rfl, rfl, SqL.of hp, atI_nat (vN_get (List.getElem?_eq_getElem hi1)), ?_⟩
      have e : dp l i0 = (dpT l)[i0] := by
        unfold dp
        rw [List.getD_eq_getElem?_getD, List.getElem?_eq_getElem hi1]
        rfl
      have := q H' s5
      rw [e] at this
      exact this
theorem ok_shortest (T : Txt K mg CN CR CH CK) (F : GFun K mg "shortest" s_shortest ["rows"]) : GOk P w K mg base CX0 1 "shortest" ["rows"] spShortest := by
  obtain ⟨f, fd, hm, hk, hb, F⟩ := F
  refine ⟨f, fd, hm, hk, hb, F.ok sc_shortest (fun vs H Q E h => ?_) (fun cdv A outer s H vs Q E hr h => ⟨_, (pss_cons (ps_set (i := 1) sc_shortest.nd rfl (Or.inl rfl) (pe_ix ix_list (pv 0) pe_int (fun _ _ => rfl))) (pss_cons (ps_for PassesOwn.never rfl (pi_list (pv 0)) (pg_name (i := 2) sc_shortest.nd rfl (Or.inl rfl)) (pss_one (ps_if (pt_cmp (pc_lt (pe_callB call_len_seq (by rfl) T.len PySem.boot_len (pa_cons (pv 2) pa_nil)) (pe_callB call_len_seq (by rfl) T.len PySem.boot_len (pa_cons (pv 1) pa_nil))) (by rfl)) (pss_one (ps_set (i := 1) sc_shortest.nd rfl (Or.inl rfl) (pv 2))) pss_nil))) (pss_one (ps_ret (pv 1))))), ?_⟩)⟩
  · obtain ⟨r, as, rows, rfl, _⟩ := h
    rfl
  · obtain ⟨r, as, rows, rfl, hr', R, hne, q⟩ := h
    have h0 : 0 < rows.length := List.length_pos_iff.mpr hne
    obtain ⟨a0, r0, ha0, hr0, hH0⟩ := R.get h0
    have eh : rows.headD [] = r0 := by
      cases rows with
      | nil => exact absurd rfl hne
      | cons x y => exact Option.some.inj hr0
    dsimp only [tSeq, tIfS, tNext, tB, tTest, tEqI, tNeI, tLt, tLe, tGt, tGe, tCmp, t2I, tAsg, tDrop, tRet, gName, tCons, tNil, tBM, tCB, tOp, tCallG, tCallGS, tMethG, tMakeG, tSl, tPart, tNoPart, tLst, tTup, tNot, tNotV, tAnd, tOr, tAndV, tOrV, tIf, tIsN, tNotN, tC, tUn, rU, rI, rI0]
    refine ⟨_, rfl, r, _, _, _, rfl, rfl, SqL.of hr', atI_nat (j := 0) (by rw [List.getElem?_map, ha0]; rfl), ?_⟩
    refine ⟨_, rfl, r, rfl, ⟨_, SqL.of hr'⟩, for_list (K := K) (a := r) (xs := as.map V.ref)
      (fun i σ H' => ∃ (v : Option V) (a : Addr), σ = [some (.ref r), some (.ref a), v] ∧ H' = H ∧ a ∈ as ∧ H a = some (.lst (vN ((rows.take i).foldl (fun b r => if r.length < b.length then r else b) r0))))
      ⟨none, a0, rfl, rfl, List.mem_of_getElem? ha0, hH0⟩ (fun i σ H' _ ⟨_, _, _, e, _⟩ => by rw [e]; exact SqL.of hr') ?_ ?_⟩
    · rintro i x σ H' hi ⟨v, a, rfl, rfl, hm, ha⟩
      obtain ⟨b, hb', rfl⟩ := of_refs hi
      obtain ⟨row, hrow⟩ := get_of_lt (l := rows) (by rw [← R.1]; exact lt_of_get hb')
      have hH := R.2 i b row hb' hrow
      have step : (rows.take (i + 1)).foldl (fun b r => if r.length < b.length then r else b) r0 = if row.length < ((rows.take i).foldl (fun b r => if r.length < b.length then r else b) r0).length then row else (rows.take i).foldl (fun b r => if r.length < b.length then r else b) r0 := by
        rw [take_snoc hrow, List.foldl_append]
        rfl
      dsimp only [tSeq, tIfS, tNext, tB, tTest, tEqI, tNeI, tLt, tLe, tGt, tGe, tCmp, t2I, tAsg, tDrop, tRet, gName, tCons, tNil, tBM, tCB, tOp, tCallG, tCallGS, tMethG, tMakeG, tSl, tPart, tNoPart, tLst, tTup, tNot, tNotV, tAnd, tOr, tAndV, tOrV, tIf, tIsN, tNotN, tC, tUn, rU, rI, rI0]
      refine ⟨_, rfl, b, _, rfl, .inl (SqL.of hH), _, rfl, a, _, rfl, .inl (SqL.of ha), _, _, rfl, rfl, _, rfl, ?_⟩
      rw [vN_len, vN_len]
      refine ite2 (fun c => ?_) (fun c => ?_)
      · have c' := of_decide_eq_true c
        refine ⟨_, rfl, _, b, rfl, rfl, List.mem_of_getElem? hb', ?_⟩
        rw [step, if_pos (by omega)]
        exact hH
      · have c' : ¬ row.length < ((rows.take i).foldl (fun b r => if r.length < b.length then r else b) r0).length := fun z => c (decide_eq_true (by omega))
        refine ⟨_, a, rfl, rfl, hm, ?_⟩
        rw [step, if_neg c']
        exact ha
    · rintro σ H' ⟨v, a, rfl, rfl, hm, ha⟩
      rw [List.length_map, R.1, List.take_length] at ha
      refine ⟨_, rfl, q a hm ?_⟩
      unfold shortest
      rw [eh]
      exact ha
end
end Dis
end
section
set_option linter.all false
set_option maxRecDepth 100000
set_option maxHeartbeats 4000000
namespace Dis
open PySem PySem.Spec PyProof.Rows L2
open Kp365 (Node)
theorem truths_len (l : List Node) : (truths l).length = l.length := tab_len l
theorem truths_at {l : List Node} {i : Nat} (h : i < l.length) : atI (bls (truths l)) (i : Int) = some (.bl (tr l i)) := atI_nat (by
  unfold bls tr
  rw [List.getElem?_map, List.getD_eq_getElem?_getD, List.getElem?_eq_getElem (by rw [truths_len]; exact h)]
  rfl)
section
variable {P : Program} {w : World} {K : PySem.W.Frag} {mg : Str → Option Value} {base : Heap} {CN CR CH CK : Addr}
-- proof_of: ["tree", "number", "is_true", "found", "node_number", "node", "alike", "child"]
theorem ok_proof_of (T : Txt K mg CN CR CH CK) (F : GFun K mg "proof_of" s_proof_of ["tree", "number"]) (G_truths : GOk P w K mg base CX0 1 "truths" ["tree"] (spTruths CN)) (G_joined : GOk P w K mg base CX0 1 "joined" ["rows"] (spJoined K))
    (G_shortest : GOk P w K mg base CX0 1 "shortest" ["rows"] spShortest) : GOk P w K mg base CX0 2 "proof_of" ["tree", "number"] (spRow CN pr) := by
  obtain ⟨f, fd, hm, hk, hb, F⟩ := F
  refine ⟨f, fd, hm, hk, hb, F.ok sc_proof_of (fun vs H Q E h => ?_) (fun cdv A outer s H vs Q E hr h => ⟨_, (pss_cons (ps_set (i := 2) sc_proof_of.nd rfl (Or.inr rfl) (pe_callG G_truths (hr.mono (by decide)) rfl pass0 (pa_cons (pv 0) pa_nil))) (pss_cons (ps_set (i := 3) sc_proof_of.nd rfl (Or.inr rfl) (pe_lst pa_nil)) (pss_cons (ps_for PassesOwn.never rfl (pi_enum (by rfl) T.enumerate (pa_cons (pv 0) pa_nil)) (pg_tup rfl (pgs_cons (pg_name (i := 4) sc_proof_of.nd rfl (Or.inr rfl)) (pgs_cons (pg_name (i := 5) sc_proof_of.nd rfl (Or.inl rfl)) pgs_nil))) (pss_one (ps_if (pt_cmp (pc_eqI (pe_fld (pv 5) rfl) (pe_cI T.LEAF)) (by rfl)) (pss_one (ps_expr (pe_bm PySem.F.plainAttrs_list PySem.F.slot_list_append PySem.F.type_list_append mt_append (pv 3) (pa_cons (pe_lst (pa_cons (pv 4) pa_nil)) pa_nil)))) (pss_one (ps_if (pt_cmpR op_eq (pe_ix ix_list (pv 2) (pv 4) (fun _ _ => rfl)) (pe_cmp (pc_eqI (pe_fld (pv 5) rfl) (pe_cI T.ALL)) (by rfl)) (nomark _)) (pss_one (ps_expr (pe_bm PySem.F.plainAttrs_list PySem.F.slot_list_append PySem.F.type_list_append mt_append (pv 3) (pa_cons (pe_callG G_joined (hr.mono (by decide)) rfl pass0 (pa_cons (pe_lc (own := [("child", 7)]) (g := gName 7) (tt := tYes) rfl sc_proof_of.nd (te := (tOp (rIxL K) (tVar 3) (tVar 7))) (pi_list (pe_fld (pv 5) rfl)) (blkOk_by (own := [("child", 7)]) (N := ["tree", "number", "is_true", "found", "node_number", "node", "alike", "child"]) (sc := defScope s_proof_of) (by decide +kernel)) (fun _ _ _ _ _ => (pg_name (i := 7) sc_proof_of.nd rfl (Or.inl rfl))) (fun _ _ _ _ _ => pts_nil) (fun _ _ _ _ _ => (pe_ix ix_list (pv 3) (pv 7) (fun _ _ => rfl)))) pa_nil)) pa_nil)))) (pss_cons (ps_setLc (i := 6) (own := [("child", 7)]) (g := gName 7) (tt := (tTest (tOp rEq (tOp (rIxL K) (tVar 2) (tVar 7)) (tOp (rIxL K) (tVar 2) (tVar 4))))) rfl sc_proof_of.nd rfl rfl (sw_true rfl rfl rfl (by decide +kernel)) (te := (tOp (rIxL K) (tVar 3) (tVar 7))) (pi_list (pe_fld (pv 5) rfl)) (blkOk_by (own := [("child", 7)]) (N := ["tree", "number", "is_true", "found", "node_number", "node", "alike", "child"]) (sc := defScope s_proof_of) (by decide +kernel)) (fun _ _ _ _ _ => (pg_name (i := 7) sc_proof_of.nd rfl (Or.inl rfl))) (fun _ _ _ _ _ => (pts_one (pt_cmpR op_eq (pe_ix ix_list (pv 2) (pv 7) (fun _ _ => rfl)) (pe_ix ix_list (pv 2) (pv 4) (fun _ _ => rfl)) (nomark _)))) (fun _ _ _ _ _ => (pe_ix ix_list (pv 3) (pv 7) (fun _ _ => rfl)))) (pss_one (ps_expr (pe_bm PySem.F.plainAttrs_list PySem.F.slot_list_append PySem.F.type_list_append mt_append (pv 3) (pa_cons (pe_callG G_shortest (hr.mono (by decide)) rfl pass0 (pa_cons (pv 6) pa_nil)) pa_nil)))))))))) (pss_one (ps_ret (pe_ix ix_list (pv 3) (pv 1) (fun _ _ => rfl))))))), ?_⟩)⟩
  · obtain ⟨t, i, l, rfl, _⟩ := h
    rfl
  · obtain ⟨t, i0, l, rfl, TA, W, hi0, q⟩ := h
    obtain ⟨as, ht, hl, hN⟩ := id TA
    dsimp only [tSeq, tIfS, tNext, tB, tTest, tEqI, tNeI, tLt, tLe, tGt, tGe, tCmp, t2I, tAsg, tDrop, tRet, gName, tCons, tNil, tBM, tCB, tOp, tCallG, tCallGS, tMethG, tMakeG, tSl, tPart, tNoPart, tLst, tTup, tNot, tNotV, tAnd, tOr, tAndV, tOrV, tIf, tIsN, tNotN, tC, tUn, rU, rI, rI0]
    refine ⟨_, rfl, t, l, rfl, TA, W, fun Hb pb sb nb gb => ?_⟩
    refine ⟨small (Nat.zero_le _), fun p np => ?_⟩
    generalize e_H1 : upd Hb p _ = H1; have s1 : Same Hb H1 := e_H1 ▸ same_new np; have g1 := e_H1 ▸ (upd_same : upd Hb p _ p = some _)
    refine ⟨_, rfl, t, _, rfl, SqL.of (s1 _ _ (sb _ _ ht)), for_enum (K := K) (a := t) (xs := as.map V.ref)
      (fun i σ H' => ∃ (v1 v2 v3 : Option V) (rs : List Addr), σ = [some (.ref t), some (.int (i0 : Nat)), some (.ref pb), some (.ref p), v1, v2, v3, none] ∧ Same Hb H' ∧ FoundAt H' p rs (tab (proofF (truths l)) (l.take i)))
      ⟨none, none, none, [], rfl, s1, g1, RowsAt.nil _, fun a z => by cases z⟩ (fun i σ H' ⟨_, _, _, _, _, s5, _⟩ => SqL.of (s5 _ _ (sb _ _ ht))) ?_ ?_⟩
    · rintro i x Tp σ H' hi ⟨v1, v2, v3, rs, rfl, s5, FA⟩ hT
      obtain ⟨a, n, rfl, hn, N⟩ := TreeAt.turn hl hN (sb.trans s5) hi
      generalize e_H0 : upd H' Tp _ = H0; have s0 : Same H' H0 := e_H0 ▸ same_new hT; have g0 := e_H0 ▸ (upd_same : upd H' Tp _ Tp = some _)
      have FA0 := FA.same s0
      have N0 := N.same s0
      have gb0 := s0 _ _ (s5 _ _ gb)
      have hil := lt_of_get hn
      have step : tab (proofF (truths l)) (l.take (i + 1)) = tab (proofF (truths l)) (l.take i) ++ [proofF (truths l) (tab (proofF (truths l)) (l.take i)) n] := tab_more hn
      have kl := kids_lt (f := proofF (truths l)) W hn
      have ll : (tab (proofF (truths l)) (l.take i)).length = i := take_len hn
      have len : rs.length = i := FA.rows.1.trans ll
      have kl2 : ∀ k ∈ n.kids, k < rs.length := fun k hk' => by
        have := kl k hk'
        rw [ll] at this
        omega
      have i20 : i < 20 := by have := W.len; omega
      have sz : (rs.map V.ref).length < sizeLine := by
        rw [List.length_map, len]
        exact smallT (by omega)
      have fin : ∀ (v3 : Option V) (D : Addr) (H2 : Hp) (r : List Nat), proofF (truths l) (tab (proofF (truths l)) (l.take i)) n = r → Same H0 H2 → H2 D = some (.lst (vN r)) → D ≠ p →
          ∃ (v1 v2 v3' : Option V) (rs' : List Addr), ([some (.ref t), some (.int (i0 : Nat)), some (.ref pb), some (.ref p), some (.int (i : Nat)), some (.ref a), v3, none] : List (Option V)) = [some (.ref t), some (.int (i0 : Nat)), some (.ref pb), some (.ref p), v1, v2, v3', none] ∧ Same Hb (upd H2 p (.lst (rs.map V.ref ++ [V.ref D]))) ∧
          FoundAt (upd H2 p (.lst (rs.map V.ref ++ [V.ref D]))) p rs' (tab (proofF (truths l)) (l.take (i + 1))) := by
        intro v3 D H2 r e s2 hD ne
        refine ⟨_, _, _, rs ++ [D], rfl, same_late ((s5.trans s0).trans s2) np, ?_⟩
        rw [step, e]
        exact (FA0.same s2).push hD ne
      have pe : pr l i = proofF (truths l) (tab (proofF (truths l)) (l.take i)) n := tab_getD hn
      dsimp only [tSeq, tIfS, tNext, tB, tTest, tEqI, tNeI, tLt, tLe, tGt, tGe, tCmp, t2I, tAsg, tDrop, tRet, gName, tCons, tNil, tBM, tCB, tOp, tCallG, tCallGS, tMethG, tMakeG, tSl, tPart, tNoPart, tLst, tTup, tNot, tNotV, tAnd, tOr, tAndV, tOrV, tIf, tIsN, tNotN, tC, tUn, rU, rI, rI0]
      refine ⟨_, _, rfl, SqT.of g0, rfl, _, _, rfl, _, _, rfl, rfl, ?_⟩
      dsimp only [tSeq, tIfS, tNext, tB, tTest, tEqI, tNeI, tLt, tLe, tGt, tGe, tCmp, t2I, tAsg, tDrop, tRet, gName, tCons, tNil, tBM, tCB, tOp, tCallG, tCallGS, tMethG, tMakeG, tSl, tPart, tNoPart, tLst, tTup, tNot, tNotV, tAnd, tOr, tAndV, tOrV, tIf, tIsN, tNotN, tC, tUn, rU, rI, rI0]
      refine rdKindV T rfl N0 ⟨_, _, rfl, rfl, _, rfl, ?_⟩
      refine ite2 (fun c => ?_) (fun c => ?_)
      · have c0 : n.kind = 0 := by have := of_decide_eq_true c; omega
        refine ⟨_, rfl, .inl ⟨rfl, _, SqL.of FA0.at_⟩, _, rfl, small (by show 1 ≤ 100000; decide), fun D hD => ?_⟩
        generalize e_H2 : upd H0 D _ = H2; have s2 : Same H0 H2 := e_H2 ▸ same_new hD; have g2 := e_H2 ▸ (upd_same : upd H0 D _ D = some _)
        refine ⟨p, _, _, rfl, rfl, s2 _ _ FA0.at_, sz, ?_⟩
        exact fin _ D H2 [i] (by rw [proofF_def, if_pos c0, ll]) s2 g2 (Ne.symm (ne_of_none FA0.at_ hD))
      · have c0 : ¬ n.kind = 0 := fun z => c (decide_eq_true (by omega))
        have U : UpOk i n := (W.node i n hn).resolve_left fun L => c0 L.1
        refine ⟨_, rfl, _, rfl, pb, _, _, _, rfl, rfl, SqL.of gb0, truths_at hil, rdKindV T rfl N0 ⟨_, _, rfl, rfl, rfl, _, rfl, ?_⟩⟩
        refine ite2 (fun c => ?_) (fun c => ?_)
        · have ce : tr l i = decide (n.kind = 1) := by
            have := V.bl.inj (of_decide_eq_true c)
            rw [this]
            exact decide_eq_decide.mpr (by omega)
          have pf : proofF (truths l) (tab (proofF (truths l)) (l.take i)) n = (n.kids.map fun k => (tab (proofF (truths l)) (l.take i)).getD k []).flatten := by
            rw [proofF_def, if_neg c0, ll, if_pos (show (truths l).getD i false = _ from ce)]
            rfl
          refine ⟨_, rfl, .inl ⟨rfl, _, SqL.of FA0.at_⟩, rdGather T (p := p) rfl (by decide) (by show 7 < 8; decide) rfl N0 (W.kids4 hn) FA0.at_ (by rw [List.length_map]; exact kl2) fun D hD => ?_⟩
          generalize e_H2 : upd H0 D _ = H2; have s2 : Same H0 H2 := e_H2 ▸ same_new hD; have g2 := e_H2 ▸ (upd_same : upd H0 D _ D = some _)
          have e : (n.kids.map fun k => (rs.map V.ref).getD k .non) = (n.kids.map fun k => rs.getD k 0).map V.ref := gather kl2
          rw [e] at g2
          have R2 := rows_gather (FA0.rows.same s2) kl
          have fl : (n.kids.map fun k => (tab (proofF (truths l)) (l.take i)).getD k []).flatten.length ≤ 10000 := by
            have := pr_20 W hil
            rw [pe, pf] at this
            omega
          refine ⟨D, _, _, rfl, g2, R2, fl, fun H3 p3 s3 n3 g3 => ?_⟩
          refine ⟨p, _, _, rfl, rfl, s3 _ _ (s2 _ _ FA0.at_), sz, ?_⟩
          exact fin _ p3 H3 _ pf (s2.trans s3) g3 (Ne.symm (ne_of_none (s2 _ _ FA0.at_) n3))
        · have ce : ¬ tr l i = decide (n.kind = 1) := fun z => c (decide_eq_true (by
            rw [z]
            exact congrArg V.bl (decide_eq_decide.mpr (by omega))))
          have pf : proofF (truths l) (tab (proofF (truths l)) (l.take i)) n = shortest ((n.kids.filter fun k => (truths l).getD k false == (truths l).getD i false).map fun k => (tab (proofF (truths l)) (l.take i)).getD k []) := by
            rw [proofF_def, if_neg c0, ll, if_neg (show ¬ (truths l).getD i false = _ from ce)]
          refine rdAlike T (p := p) (pt := pb) (z := i) (bs := truths l) rfl (by decide) (by show 7 < 8; decide) rfl N0 (W.kids4 hn) FA0.at_ (by rw [List.length_map]; exact kl2) rfl (by decide) gb0
            (fun k hk' => by rw [truths_len]; have := W.kid hn hk'; omega) rfl (by decide) (by rw [truths_len]; exact hil) fun D hD => ?_
          generalize e_H2 : upd H0 D _ = H2; have s2 : Same H0 H2 := e_H2 ▸ same_new hD; have g2 := e_H2 ▸ (upd_same : upd H0 D _ D = some _)
          have sub : ∀ k ∈ (n.kids.filter fun k => (truths l).getD k false == (truths l).getD i false), k ∈ n.kids := fun k hk' => (List.mem_filter.mp hk').1
          have e : ((n.kids.filter fun k => (truths l).getD k false == (truths l).getD i false).map fun k => (rs.map V.ref).getD k .non) = ((n.kids.filter fun k => (truths l).getD k false == (truths l).getD i false).map fun k => rs.getD k 0).map V.ref := gather fun k hk' => kl2 k (sub k hk')
          rw [e] at g2
          have R2 := rows_gather (FA0.rows.same s2) (fun k hk' => kl k (sub k hk'))
          refine ⟨_, rfl, .inl ⟨rfl, _, SqL.of (s2 _ _ FA0.at_)⟩, _, rfl, D, _, _, rfl, g2, R2, ?_, fun b hbm hb' => ?_⟩
          · intro z
            exact alike_some W hn U (List.map_eq_nil_iff.mp z)
          · refine ⟨p, _, _, rfl, rfl, s2 _ _ FA0.at_, sz, ?_⟩
            refine fin _ b H2 _ pf s2 hb' ?_
            obtain ⟨k, hk', rfl⟩ := List.mem_map.mp hbm
            refine FA0.ne _ ?_
            have := kl2 k (sub k hk')
            rw [List.getD_eq_getElem?_getD, List.getElem?_eq_getElem this]
            exact List.getElem_mem this
    · rintro σ H' ⟨v1, v2, v3, rs, rfl, s5, FA⟩
      rw [List.length_map, hl, List.take_length] at FA
      have hi1 : i0 < (tab (proofF (truths l)) l).length := by
        rw [tab_len]
        exact hi0
      obtain ⟨b, r, hb', hr', hH⟩ := FA.rows.get hi1
      have e : pr l i0 = r := by
        unfold pr prT
        rw [List.getD_eq_getElem?_getD, hr']
        rfl
      refine ⟨_, rfl, _, rfl, p, _, _, _, rfl, rfl, SqL.of FA.at_, atI_nat (by rw [List.getElem?_map, hb']; rfl), ?_⟩
      refine q H' b (sb.trans s5) ?_
      rw [e]
      exact hH
theorem ok_matters (T : Txt K mg CN CR CH CK) (F : GFun K mg "matters" s_matters ["tree", "number"]) (G_truths : GOk P w K mg base CX0 1 "truths" ["tree"] (spTruths CN)) (G_leaves_of : GOk P w K mg base CX0 2 "leaves_of" ["tree", "number"] (spRow CN lv))
    (G_flipped : GOk P w K mg base CX0 4 "flipped" ["tree", "number"] (spFlipped CN)) : GOk P w K mg base CX0 5 "matters" ["tree", "number"] (spRow CN mat) := by
  obtain ⟨f, fd, hm, hk, hb, F⟩ := F
  refine ⟨f, fd, hm, hk, hb, F.ok sc_matters (fun vs H Q E h => ?_) (fun cdv A outer s H vs Q E hr h => ⟨_, (pss_cons (ps_set (i := 2) sc_matters.nd rfl (Or.inr rfl) (pe_ix ix_list (pe_callG G_truths (hr.mono (by decide)) rfl pass0 (pa_cons (pv 0) pa_nil)) (pv 1) (fun _ _ => rfl))) (pss_one (ps_ret (pe_lc (own := [("leaf", 3)]) (g := gName 3) (tt := (tTest (tOp rNe (tOp (rIxL K) (tCallG (spTruths CN) E0 (tCons (tCallG (spFlipped CN) E0 (tCons (tVar 0) (tCons (tVar 3) tNil))) tNil)) (tVar 1)) (tVar 2)))) rfl sc_matters.nd (te := (tVar 3)) (pi_list (pe_callG G_leaves_of (hr.mono (by decide)) rfl pass0 (pa_cons (pv 0) (pa_cons (pv 1) pa_nil)))) (blkOk_by (own := [("leaf", 3)]) (N := ["tree", "number", "is_true", "leaf"]) (sc := defScope s_matters) (by decide +kernel)) (fun _ _ _ _ _ => (pg_name (i := 3) sc_matters.nd rfl (Or.inl rfl))) (fun _ _ _ _ _ => (pts_one (pt_cmpR op_ne (pe_ix ix_list (pe_callG G_truths (hr.mono (by decide)) rfl pass0 (pa_cons (pe_callG G_flipped (hr.mono (by decide)) rfl pass0 (pa_cons (pv 0) (pa_cons (pv 3) pa_nil))) pa_nil)) (pv 1) (fun _ _ => rfl)) (pv 2) (nomark _)))) (fun _ _ _ _ _ => (pv 3)))))), ?_⟩)⟩
  · obtain ⟨t, i, l, rfl, _⟩ := h
    rfl
  · obtain ⟨t, i0, l, rfl, TA, W, hi0, q⟩ := h
    dsimp only [tSeq, tIfS, tNext, tB, tTest, tEqI, tNeI, tLt, tLe, tGt, tGe, tCmp, t2I, tAsg, tDrop, tRet, gName, tCons, tNil, tBM, tCB, tOp, tCallG, tCallGS, tMethG, tMakeG, tSl, tPart, tNoPart, tLst, tTup, tNot, tNotV, tAnd, tOr, tAndV, tOrV, tIf, tIsN, tNotN, tC, tUn, rU, rI, rI0]
    refine ⟨_, rfl, t, l, rfl, TA, W, fun Hb pb sb nb gb => ?_⟩
    refine ⟨_, rfl, pb, _, _, _, rfl, rfl, SqL.of gb, truths_at hi0, ?_⟩
    refine ⟨_, rfl, _, rfl, t, i0, l, rfl, TA.same sb, W, hi0, fun H1 a s1 g1 => ⟨a, rfl, ⟨_, SqL.of g1⟩, fun D hD => ?_⟩⟩
    have lt20 : (lv l i0).length ≤ 20 := lv_20 l W i0 hi0
    refine lc_list (K := K) (a := a) (xs := vN (lv l i0)) (fun j H' => Same H1 H' ∧ H' D = some (.lst (vN (((lv l i0).take j).filter fun k => tr (flipd l k) i0 != tr l i0)))) ⟨same_new hD, upd_same⟩ (fun j H' _ e => SqL.of (e.1 _ _ g1)) ?_ ?_
    · rintro j x H' hx ⟨s5, hd⟩
      obtain ⟨k, hk', rfl⟩ := of_vN hx
      obtain ⟨hkl, m, hm', L⟩ := lv_leaf W hi0 (List.mem_of_getElem? hk')
      have tk : ((lv l i0).take (j + 1)).filter (fun k => tr (flipd l k) i0 != tr l i0) = ((lv l i0).take j).filter (fun k => tr (flipd l k) i0 != tr l i0) ++ (if (tr (flipd l k) i0 != tr l i0) = true then [k] else []) := by
        rw [take_snoc hk', List.filter_append]
        congr 1
        cases hbz : (tr (flipd l k) i0 != tr l i0) with
        | true => rw [List.filter_cons_of_pos (p := fun k => tr (flipd l k) i0 != tr l i0) hbz, if_pos rfl]; rfl
        | false => rw [List.filter_cons_of_neg (p := fun k => tr (flipd l k) i0 != tr l i0) (by rw [hbz]; decide), if_neg (by decide)]; rfl
      refine ⟨rfl, ?_⟩
      dsimp only [tSeq, tIfS, tNext, tB, tTest, tEqI, tNeI, tLt, tLe, tGt, tGe, tCmp, t2I, tAsg, tDrop, tRet, gName, tCons, tNil, tBM, tCB, tOp, tCallG, tCallGS, tMethG, tMakeG, tSl, tPart, tNoPart, tLst, tTup, tNot, tNotV, tAnd, tOr, tAndV, tOrV, tIf, tIsN, tNotN, tC, tUn, rU, rI, rI0]
      refine ⟨_, rfl, _, rfl, t, k, l, rfl, ((TA.same sb).same s1).same s5, W.len, hkl, fun H3 p3 s3 n3 T3 => ?_⟩
      refine ⟨p3, flipd l k, rfl, T3, W.flip hm' L, fun H4 p4 s4 n4 g4 => ?_⟩
      have sD : Same H' H4 := s3.trans s4
      refine ⟨_, rfl, p4, _, _, _, rfl, rfl, SqL.of g4, truths_at (by rw [flipd_len hkl]; exact hi0), _, rfl, rfl, _, rfl, ?_⟩
      have eb : (!decide (V.bl (tr (flipd l k) i0) = V.bl (tr l i0))) = (tr (flipd l k) i0 != tr l i0) := by
        cases tr (flipd l k) i0 <;> cases tr l i0 <;> rfl
      rw [eb]
      refine ite2 (fun c => ?_) (fun c => ?_)
      · refine ⟨_, rfl, _, sD _ _ hd, ?_, ?_, ?_⟩
        · rw [vN_len]
          have := List.length_filter_le (fun k => tr (flipd l k) i0 != tr l i0) ((lv l i0).take j)
          rw [List.length_take] at this
          exact smallT (by omega)
        · exact same_late (s5.trans sD) hD
        · rw [upd_same, tk, if_pos c, vN_app]
          rfl
      · rw [tk, if_neg c, List.append_nil]
        exact ⟨s5.trans sD, sD _ _ hd⟩
    · rintro H' ⟨s5, hd⟩
      rw [vN_len, List.take_length] at hd
      exact q H' D ((sb.trans s1).trans s5) hd
end
end Dis
end
section
set_option linter.all false
set_option maxRecDepth 100000
set_option maxHeartbeats 4000000
namespace Dis
open PySem PySem.Spec PyProof.Rows L2
open Kp365 (Node)
abbrev s_held_all : Stmt := top 18
theorem sc_held_all : FnScope ["tree", "found", "node", "held", "child"] ["tree"] (defScope s_held_all) := ⟨rfl, rfl, rfl, by decide +kernel, rfl, by decide +kernel, by decide +kernel⟩
abbrev s_held_by : Stmt := top 19
theorem sc_held_by : FnScope ["tree", "picks", "told_kind", "found", "node", "pick", "held", "child"] ["tree", "picks", "told_kind"] (defScope s_held_by) := ⟨rfl, rfl, rfl, by decide +kernel, rfl, by decide +kernel, by decide +kernel⟩
abbrev s_is_pick : Stmt := top 21
theorem sc_is_pick : FnScope ["node", "pick", "told_kind"] ["node", "pick", "told_kind"] (defScope s_is_pick) := ⟨rfl, rfl, rfl, by decide +kernel, rfl, by decide +kernel, by decide +kernel⟩
abbrev s_are_picks : Stmt := top 20
theorem sc_are_picks : FnScope ["tree", "picks", "told_kind", "node", "pick"] ["tree", "picks", "told_kind"] (defScope s_are_picks) := ⟨rfl, rfl, rfl, by decide +kernel, rfl, by decide +kernel, by decide +kernel⟩
abbrev s_right_wins : Stmt := top 22
theorem sc_right_wins : FnScope ["tree", "number", "held"] ["tree", "number"] (defScope s_right_wins) := ⟨rfl, rfl, rfl, by decide +kernel, rfl, by decide +kernel, by decide +kernel⟩
abbrev s_picked : Stmt := top 23
theorem sc_picked : FnScope ["tree", "number", "held", "child"] ["tree", "number"] (defScope s_picked) := ⟨rfl, rfl, rfl, by decide +kernel, rfl, by decide +kernel, by decide +kernel⟩
abbrev s_way_from : Stmt := top 24
theorem sc_way_from : FnScope ["tree", "number", "found"] ["tree", "number"] (defScope s_way_from) := ⟨rfl, rfl, rfl, by decide +kernel, rfl, by decide +kernel, by decide +kernel⟩
abbrev s_best_leaf : Stmt := top 25
theorem sc_best_leaf : FnScope ["tree", "number", "best", "most", "leaf", "wins"] ["tree", "number"] (defScope s_best_leaf) := ⟨rfl, rfl, rfl, by decide +kernel, rfl, by decide +kernel, by decide +kernel⟩
-- ["tree", "found", "node", "held", "child"] ["tree", "picks", "told_kind", "found", "node", "pick", "held", "child"] ["tree", "picks", "told_kind", "node", "pick"] ["tree", "number", "held", "child"] ["tree", "number", "found"] ["tree", "number", "best", "most", "leaf", "wins"]
theorem gatherN {l ks : List Nat} (h : ∀ k ∈ ks, k < l.length) : (ks.map fun k => (vN l).getD k .non) = vN (ks.map fun k => l.getD k 0) := gather (f := fun k : Nat => V.int (k : Nat)) h
theorem hdT_len (l : List Node) : (hdT l).length = l.length := tab_len l
theorem hdT_at {l : List Node} {i : Nat} (h : i < l.length) : atI (vN (hdT l)) (i : Int) = some (.int (hd l i : Nat)) := atI_nat (by
  have h' : i < (hdT l).length := by rw [hdT_len]; exact h
  have e : hd l i = (hdT l)[i] := by
    unfold hd
    rw [List.getD_eq_getElem?_getD, List.getElem?_eq_getElem h']
    rfl
  rw [e]
  exact vN_get (List.getElem?_eq_getElem h'))
section
variable {P : Program} {w : World} {K : PySem.W.Frag} {mg : Str → Option Value} {base : Heap} {CN CR CH CK : Addr}
theorem ok_held_all (T : Txt K mg CN CR CH CK) (F : GFun K mg "held_all" s_held_all ["tree"]) (M_read_so : MOk P w K mg base CX0 1 CN "read_so" ["self"] (spReadSo CN)) : GOk P w K mg base CX0 2 "held_all" ["tree"] (spHeldAll CN) := by
  obtain ⟨f, fd, hm, hk, hb, F⟩ := F
  refine ⟨f, fd, hm, hk, hb, F.ok sc_held_all (fun vs H Q E h => ?_) (fun cdv A outer s H vs Q E hr h => ⟨_, (pss_cons (ps_set (i := 1) sc_held_all.nd rfl (Or.inr rfl) (pe_lst pa_nil)) (pss_cons (ps_for PassesOwn.never rfl (pi_list (pv 0)) (pg_name (i := 2) sc_held_all.nd rfl (Or.inl rfl)) (pss_cons (ps_setLc (i := 3) (own := [("child", 4)]) (g := gName 4) (tt := tYes) rfl sc_held_all.nd rfl rfl (sw_true rfl rfl rfl (by decide +kernel)) (te := (tOp (rIxL K) (tVar 1) (tVar 4))) (pi_list (pe_fld (pv 2) rfl)) (blkOk_by (own := [("child", 4)]) (N := ["tree", "found", "node", "held", "child"]) (sc := defScope s_held_all) (by decide +kernel)) (fun _ _ _ _ _ => (pg_name (i := 4) sc_held_all.nd rfl (Or.inl rfl))) (fun _ _ _ _ _ => pts_nil) (fun _ _ _ _ _ => (pe_ix ix_list (pv 1) (pv 4) (fun _ _ => rfl)))) (pss_one (ps_if (pt_cmp (pc_eqI (pe_fld (pv 2) rfl) (pe_cI T.LEAF)) (by rfl)) (pss_one (ps_expr (pe_bm PySem.F.plainAttrs_list PySem.F.slot_list_append PySem.F.type_list_append mt_append (pv 1) (pa_cons (pe_methG0 M_read_so T.clN (hr.mono (by decide)) pass0 (pv 2)) pa_nil)))) (pss_one (ps_if (pt_cmp (pc_eqI (pe_fld (pv 2) rfl) (pe_cI T.ALL)) (by rfl)) (pss_one (ps_expr (pe_bm PySem.F.plainAttrs_list PySem.F.slot_list_append PySem.F.type_list_append mt_append (pv 1) (pa_cons (pe_callB (cr_min rfl) (by rfl) T.min (by decide +kernel) (pa_cons (pv 3) pa_nil)) pa_nil)))) (pss_one (ps_expr (pe_bm PySem.F.plainAttrs_list PySem.F.slot_list_append PySem.F.type_list_append mt_append (pv 1) (pa_cons (pe_callB (cr_max rfl) (by rfl) T.max (by decide +kernel) (pa_cons (pv 3) pa_nil)) pa_nil)))))))))) (pss_one (ps_ret (pv 1))))), ?_⟩)⟩
  · obtain ⟨t, l, rfl, _⟩ := h
    rfl
  · obtain ⟨t, l, rfl, ⟨as, ht, hl, hN⟩, W, q⟩ := h
    dsimp only [tSeq, tIfS, tNext, tB, tTest, tEqI, tNeI, tLt, tLe, tGt, tGe, tCmp, t2I, tAsg, tDrop, tRet, gName, tCons, tNil, tBM, tCB, tOp, tCallG, tCallGS, tMethG, tMakeG, tSl, tPart, tNoPart, tLst, tTup, tNot, tNotV, tAnd, tOr, tAndV, tOrV, tIf, tIsN, tNotN, tC, tUn, rU, rI, rI0]
    refine ⟨small (Nat.zero_le _), fun p np => ?_⟩
    generalize e_H1 : upd H p _ = H1; have s1 : Same H H1 := e_H1 ▸ same_new np; have g1 := e_H1 ▸ (upd_same : upd H p _ p = some _)
    refine ⟨_, rfl, t, rfl, ⟨_, SqL.of (s1 _ _ ht)⟩, for_list (K := K) (a := t) (xs := as.map V.ref)
      (fun i σ H' => ∃ v1 v2 : Option V, σ = [some (.ref t), some (.ref p), v1, v2, none] ∧ Same H H' ∧ H' p = some (.lst (vN (hdT (l.take i)))))
      ⟨none, none, rfl, s1, g1⟩ (fun i σ H' _ ⟨_, _, _, s5, _⟩ => SqL.of (s5 _ _ ht)) ?_ ?_⟩
    · rintro i x σ H' hi ⟨v1, v2, rfl, s5, hp⟩
      obtain ⟨a, n, rfl, hn, N⟩ := TreeAt.turn hl hN s5 hi
      have step : hdT (l.take (i + 1)) = hdT (l.take i) ++ [heldF (hdT (l.take i)) n] := tab_more hn
      have kl : ∀ k ∈ n.kids, k < (hdT (l.take i)).length := kids_lt (f := heldF) W hn
      have hil := lt_of_get hn
      have sz : (vN (hdT (l.take i))).length < sizeLine := by
        rw [vN_len]
        show (tab heldF (l.take i)).length < _
        rw [take_len hn]
        exact smallT (by have := W.len; omega)
      dsimp only [tSeq, tIfS, tNext, tB, tTest, tEqI, tNeI, tLt, tLe, tGt, tGe, tCmp, t2I, tAsg, tDrop, tRet, gName, tCons, tNil, tBM, tCB, tOp, tCallG, tCallGS, tMethG, tMakeG, tSl, tPart, tNoPart, tLst, tTup, tNot, tNotV, tAnd, tOr, tAndV, tOrV, tIf, tIsN, tNotN, tC, tUn, rU, rI, rI0]
      refine rdGather T (p := p) rfl (by decide) (by show 4 < 5; decide) rfl N (W.kids4 hn) hp (by rw [vN_len]; exact kl) fun D hD => ?_
      generalize e_H2 : upd H' D _ = H2; have s2 : Same H' H2 := e_H2 ▸ same_new hD; have g2 := e_H2 ▸ (upd_same : upd H' D _ D = some _)
      rw [gatherN kl] at g2
      have hp2 := s2 _ _ hp
      have N2 := N.same s2
      have fin : ∀ (v : Nat), heldF (hdT (l.take i)) n = v → ∃ v1 v2 : Option V, ([some (.ref t), some (.ref p), some (.ref a), some (.ref D), none] : List (Option V)) = [some (.ref t), some (.ref p), v1, v2, none] ∧ Same H (upd H2 p (.lst (vN (hdT (l.take i)) ++ [V.int (v : Nat)]))) ∧
          (upd H2 p (.lst (vN (hdT (l.take i)) ++ [V.int (v : Nat)]))) p = some (.lst (vN (hdT (l.take (i + 1))))) := by
        intro v e
        refine ⟨_, _, rfl, same_late (s5.trans s2) np, ?_⟩
        rw [upd_same, step, e, vN_app]
        rfl
      refine rdKindV T rfl N2 ⟨_, _, rfl, rfl, _, rfl, ?_⟩
      refine ite2 (fun c => ?_) (fun c => ?_)
      · have c0 : n.kind = 0 := by have := of_decide_eq_true c; omega
        have L : LeafOk n := (W.node i n hn).resolve_right fun U => by rcases U.1 with e | e <;> omega
        obtain ⟨dx, cc, h1, h2⟩ := id N2
        refine ⟨_, rfl, .inl ⟨rfl, _, SqL.of hp2⟩, _, rfl, a, dx, _, rfl, h1, nF_no n cc (by decide +kernel) (by decide +kernel) (by decide +kernel) (by decide +kernel), a, n, rfl, N2, L.2.2.1, p, _, _, rfl, rfl, hp2, sz, ?_⟩
        exact fin _ (by rw [heldF_def, if_pos c0])
      · have c0 : ¬ n.kind = 0 := fun z => c (decide_eq_true (by omega))
        have U : UpOk i n := (W.node i n hn).resolve_left fun L => c0 L.1
        have ne : 0 < (n.kids.map fun k => (hdT (l.take i)).getD k 0).length := by
          rw [List.length_map]
          exact U.2.1
        have le100 : ∀ k ∈ (n.kids.map fun k => (hdT (l.take i)).getD k 0), k ≤ 100 := by
          intro y hy
          obtain ⟨k, hk', rfl⟩ := List.mem_map.mp hy
          have e : (hdT (l.take i)).getD k 0 = hd l k := tab_ahead (W.kid hn hk')
          rw [e]
          exact hd_le W (by have := W.kid hn hk'; omega)
        refine rdKindV T rfl N2 ⟨_, _, rfl, rfl, _, rfl, ?_⟩
        refine ite2 (fun c => ?_) (fun c => ?_)
        · have c1 : n.kind = 1 := by have := of_decide_eq_true c; omega
          refine ⟨_, rfl, .inl ⟨rfl, _, SqL.of hp2⟩, _, rfl, D, _, rfl, SqL.of (by rw [← vN_int]; exact g2), by rw [List.length_map]; exact ne, fun m hm hle => ?_⟩
          rw [int_min le100 hm hle]
          refine ⟨p, _, _, rfl, rfl, hp2, sz, ?_⟩
          exact fin _ (by rw [heldF_def, if_neg c0, if_pos c1])
        · have c1 : ¬ n.kind = 1 := fun z => c (decide_eq_true (by omega))
          refine ⟨_, rfl, .inl ⟨rfl, _, SqL.of hp2⟩, _, rfl, D, _, rfl, SqL.of (by rw [← vN_int]; exact g2), by rw [List.length_map]; exact ne, fun m hm hle => ?_⟩
          rw [int_max hm hle]
          refine ⟨p, _, _, rfl, rfl, hp2, sz, ?_⟩
          exact fin _ (by rw [heldF_def, if_neg c0, if_neg c1])
    · rintro σ H' ⟨v1, v2, rfl, s5, hp⟩
      rw [List.length_map, hl, List.take_length] at hp
      exact ⟨_, rfl, q H' p s5 np hp⟩
theorem ok_held_by (T : Txt K mg CN CR CH CK) (F : GFun K mg "held_by" s_held_by ["tree", "picks", "told_kind"]) (M_read_so : MOk P w K mg base CX0 1 CN "read_so" ["self"] (spReadSo CN)) : GOk P w K mg base CX0 2 "held_by" ["tree", "picks", "told_kind"] (spHeldBy CN) := by
  obtain ⟨f, fd, hm, hk, hb, F⟩ := F
  refine ⟨f, fd, hm, hk, hb, F.ok sc_held_by (fun vs H Q E h => ?_) (fun cdv A outer s H vs Q E hr h => ⟨_, (pss_cons (ps_set (i := 3) sc_held_by.nd rfl (Or.inr rfl) (pe_lst pa_nil)) (pss_cons (ps_for PassesOwn.never rfl (pi_zip (by rfl) T.zip (pa_cons (pv 0) (pa_cons (pv 1) pa_nil))) (pg_tup rfl (pgs_cons (pg_name (i := 4) sc_held_by.nd rfl (Or.inl rfl)) (pgs_cons (pg_name (i := 5) sc_held_by.nd rfl (Or.inl rfl)) pgs_nil))) (pss_cons (ps_setLc (i := 6) (own := [("child", 7)]) (g := gName 7) (tt := tYes) rfl sc_held_by.nd rfl rfl (sw_true rfl rfl rfl (by decide +kernel)) (te := (tOp (rIxL K) (tVar 3) (tVar 7))) (pi_list (pe_fld (pv 4) rfl)) (blkOk_by (own := [("child", 7)]) (N := ["tree", "picks", "told_kind", "found", "node", "pick", "held", "child"]) (sc := defScope s_held_by) (by decide +kernel)) (fun _ _ _ _ _ => (pg_name (i := 7) sc_held_by.nd rfl (Or.inl rfl))) (fun _ _ _ _ _ => pts_nil) (fun _ _ _ _ _ => (pe_ix ix_list (pv 3) (pv 7) (fun _ _ => rfl)))) (pss_one (ps_if (pt_cmp (pc_eqI (pe_fld (pv 4) rfl) (pe_cI T.LEAF)) (by rfl)) (pss_one (ps_expr (pe_bm PySem.F.plainAttrs_list PySem.F.slot_list_append PySem.F.type_list_append mt_append (pv 3) (pa_cons (pe_methG0 M_read_so T.clN (hr.mono (by decide)) pass0 (pv 4)) pa_nil)))) (pss_one (ps_if (pt_cmp (pc_eqI (pe_fld (pv 4) rfl) (pv 2)) (by rfl)) (pss_one (ps_expr (pe_bm PySem.F.plainAttrs_list PySem.F.slot_list_append PySem.F.type_list_append mt_append (pv 3) (pa_cons (pe_ix ix_list (pv 6) (pv 5) (fun _ _ => rfl)) pa_nil)))) (pss_one (ps_if (pt_cmp (pc_eqI (pe_fld (pv 4) rfl) (pe_cI T.ALL)) (by rfl)) (pss_one (ps_expr (pe_bm PySem.F.plainAttrs_list PySem.F.slot_list_append PySem.F.type_list_append mt_append (pv 3) (pa_cons (pe_callB (cr_min rfl) (by rfl) T.min (by decide +kernel) (pa_cons (pv 6) pa_nil)) pa_nil)))) (pss_one (ps_expr (pe_bm PySem.F.plainAttrs_list PySem.F.slot_list_append PySem.F.type_list_append mt_append (pv 3) (pa_cons (pe_callB (cr_max rfl) (by rfl) T.max (by decide +kernel) (pa_cons (pv 6) pa_nil)) pa_nil)))))))))))) (pss_one (ps_ret (pv 3))))), ?_⟩)⟩
  · obtain ⟨t, r, l, ps, told, rfl, _⟩ := h
    rfl
  · obtain ⟨t, r, l, ps, told, rfl, ⟨as, ht, hl, hN⟩, W, hr', ht0, PK, q⟩ := h
    obtain ⟨pl, pks⟩ := arePicks_iff.mp PK
    dsimp only [tSeq, tIfS, tNext, tB, tTest, tEqI, tNeI, tLt, tLe, tGt, tGe, tCmp, t2I, tAsg, tDrop, tRet, gName, tCons, tNil, tBM, tCB, tOp, tCallG, tCallGS, tMethG, tMakeG, tSl, tPart, tNoPart, tLst, tTup, tNot, tNotV, tAnd, tOr, tAndV, tOrV, tIf, tIsN, tNotN, tC, tUn, rU, rI, rI0]
    refine ⟨small (Nat.zero_le _), fun p np => ?_⟩
    generalize e_H1 : upd H p _ = H1; have s1 : Same H H1 := e_H1 ▸ same_new np; have g1 := e_H1 ▸ (upd_same : upd H p _ p = some _)
    refine ⟨_, rfl, _, rfl, t, r, _, _, rfl, SqL.of (s1 _ _ ht), SqL.of (s1 _ _ hr'), RZ.for_zipL (K := K) (a := t) (b := r) (xs := as.map V.ref) (ys := vN ps) (by rw [List.length_map, vN_len]; omega)
      (fun i σ H' => ∃ v1 v2 v3 : Option V, σ = [some (.ref t), some (.ref r), some (.int (told : Nat)), some (.ref p), v1, v2, v3, none] ∧ Same H H' ∧ H' p = some (.lst (vN (hbT told ps (l.take i)))))
      ⟨none, none, none, rfl, s1, g1⟩ (fun i σ H' ⟨_, _, _, _, s5, _⟩ => ⟨SqL.of (s5 _ _ ht), SqL.of (s5 _ _ hr')⟩) ?_ ?_⟩
    · rintro i x y Tp σ H' hi hy ⟨v1, v2, v3, rfl, s5, hp⟩ hT
      obtain ⟨a, n, rfl, hn, N⟩ := TreeAt.turn hl hN s5 hi
      obtain ⟨pk', hpk, rfl⟩ := of_vN hy
      have epk : ps.getD i 0 = pk' := by rw [List.getD_eq_getElem?_getD, hpk]; rfl
      generalize e_H0 : upd H' Tp _ = H0; have s0 : Same H' H0 := e_H0 ▸ same_new hT; have g0 := e_H0 ▸ (upd_same : upd H' Tp _ Tp = some _)
      have step : hbT told ps (l.take (i + 1)) = hbT told ps (l.take i) ++ [heldByF told ps (hbT told ps (l.take i)) n] := tab_more hn
      have kl : ∀ k ∈ n.kids, k < (hbT told ps (l.take i)).length := kids_lt (f := heldByF told ps) W hn
      have ll : (hbT told ps (l.take i)).length = i := take_len hn
      have hil := lt_of_get hn
      have sz : (vN (hbT told ps (l.take i))).length < sizeLine := by
        rw [vN_len, ll]
        exact smallT (by have := W.len; omega)
      have N0 := N.same s0
      dsimp only [tSeq, tIfS, tNext, tB, tTest, tEqI, tNeI, tLt, tLe, tGt, tGe, tCmp, t2I, tAsg, tDrop, tRet, gName, tCons, tNil, tBM, tCB, tOp, tCallG, tCallGS, tMethG, tMakeG, tSl, tPart, tNoPart, tLst, tTup, tNot, tNotV, tAnd, tOr, tAndV, tOrV, tIf, tIsN, tNotN, tC, tUn, rU, rI, rI0]
      refine ⟨_, _, rfl, SqT.of g0, rfl, _, _, rfl, _, _, rfl, rfl, ?_⟩
      dsimp only [tSeq, tIfS, tNext, tB, tTest, tEqI, tNeI, tLt, tLe, tGt, tGe, tCmp, t2I, tAsg, tDrop, tRet, gName, tCons, tNil, tBM, tCB, tOp, tCallG, tCallGS, tMethG, tMakeG, tSl, tPart, tNoPart, tLst, tTup, tNot, tNotV, tAnd, tOr, tAndV, tOrV, tIf, tIsN, tNotN, tC, tUn, rU, rI, rI0]
      refine rdGather T (p := p) rfl (by decide) (by show 7 < 8; decide) rfl N0 (W.kids4 hn) (s0 _ _ hp) (by rw [vN_len]; exact kl) fun D hD => ?_
      generalize e_H2 : upd H0 D _ = H2; have s2 : Same H0 H2 := e_H2 ▸ same_new hD; have g2 := e_H2 ▸ (upd_same : upd H0 D _ D = some _)
      rw [gatherN kl] at g2
      have hp2 := s2 _ _ (s0 _ _ hp)
      have N2 := N0.same s2
      have fin : ∀ (v : Nat), heldByF told ps (hbT told ps (l.take i)) n = v → ∃ v1 v2 v3 : Option V, ([some (.ref t), some (.ref r), some (.int (told : Nat)), some (.ref p), some (.ref a), some (.int (pk' : Nat)), some (.ref D), none] : List (Option V)) = [some (.ref t), some (.ref r), some (.int (told : Nat)), some (.ref p), v1, v2, v3, none] ∧
          Same H (upd H2 p (.lst (vN (hbT told ps (l.take i)) ++ [V.int (v : Nat)]))) ∧ (upd H2 p (.lst (vN (hbT told ps (l.take i)) ++ [V.int (v : Nat)]))) p = some (.lst (vN (hbT told ps (l.take (i + 1))))) := by
        intro v e
        refine ⟨_, _, _, rfl, same_late ((s5.trans s0).trans s2) np, ?_⟩
        rw [upd_same, step, e, vN_app]
        rfl
      refine rdKindV T rfl N2 ⟨_, _, rfl, rfl, _, rfl, ?_⟩
      refine ite2 (fun c => ?_) (fun c => ?_)
      · have c0 : n.kind = 0 := by have := of_decide_eq_true c; omega
        have L : LeafOk n := (W.node i n hn).resolve_right fun U => by rcases U.1 with e | e <;> omega
        obtain ⟨dx, cc, h1, h2⟩ := id N2
        refine ⟨_, rfl, .inl ⟨rfl, _, SqL.of hp2⟩, _, rfl, a, dx, _, rfl, h1, nF_no n cc (by decide +kernel) (by decide +kernel) (by decide +kernel) (by decide +kernel), a, n, rfl, N2, L.2.2.1, p, _, _, rfl, rfl, hp2, sz, ?_⟩
        exact fin _ (by rw [heldByF_def, if_pos c0])
      · have c0 : ¬ n.kind = 0 := fun z => c (decide_eq_true (by omega))
        have U : UpOk i n := (W.node i n hn).resolve_left fun L => c0 L.1
        have ne : 0 < (n.kids.map fun k => (hbT told ps (l.take i)).getD k 0).length := by
          rw [List.length_map]
          exact U.2.1
        refine rdKindV T rfl N2 ⟨_, rfl, _, _, rfl, rfl, _, rfl, ?_⟩
        refine ite2 (fun c => ?_) (fun c => ?_)
        · have ct : n.kind = told := by have := of_decide_eq_true c; omega
          have hp' := pks i n hn
          unfold pickOk at hp'
          rw [if_pos ct, epk] at hp'
          have lt : pk' < (n.kids.map fun k => (hbT told ps (l.take i)).getD k 0).length := by
            rw [List.length_map]
            exact of_decide_eq_true hp'
          refine ⟨_, rfl, .inl ⟨rfl, _, SqL.of hp2⟩, _, rfl, _, rfl, D, _, _, _, rfl, rfl, SqL.of g2, atI_nat (vN_get (List.getElem?_eq_getElem lt)), p, _, _, rfl, rfl, hp2, sz, ?_⟩
          refine fin _ ?_
          rw [heldByF_def, if_neg c0, if_pos ct, ll, epk, List.getD_eq_getElem?_getD, List.getElem?_eq_getElem lt]
          rfl
        · have ct : ¬ n.kind = told := fun z => c (decide_eq_true (by omega))
          refine rdKindV T rfl N2 ⟨_, _, rfl, rfl, _, rfl, ?_⟩
          refine ite2 (fun c => ?_) (fun c => ?_)
          · have c1 : n.kind = 1 := by have := of_decide_eq_true c; omega
            refine ⟨_, rfl, .inl ⟨rfl, _, SqL.of hp2⟩, _, rfl, D, _, rfl, SqL.of (by rw [← vN_int]; exact g2), by rw [List.length_map]; exact ne, fun m hm hle => ?_⟩
            have le100 : ∀ k ∈ (n.kids.map fun k => (hbT told ps (l.take i)).getD k 0), k ≤ 100 := by
              intro y hy
              obtain ⟨k, hk', rfl⟩ := List.mem_map.mp hy
              have e : (hbT told ps (l.take i)).getD k 0 = Dis.hb told ps l k := tab_ahead (W.kid hn hk')
              rw [e]
              exact hb_le W PK (by have := W.kid hn hk'; omega)
            rw [int_min le100 hm hle]
            refine ⟨p, _, _, rfl, rfl, hp2, sz, ?_⟩
            exact fin _ (by rw [heldByF_def, if_neg c0, if_neg ct, if_pos c1])
          · have c1 : ¬ n.kind = 1 := fun z => c (decide_eq_true (by omega))
            refine ⟨_, rfl, .inl ⟨rfl, _, SqL.of hp2⟩, _, rfl, D, _, rfl, SqL.of (by rw [← vN_int]; exact g2), by rw [List.length_map]; exact ne, fun m hm hle => ?_⟩
            rw [int_max hm hle]
            refine ⟨p, _, _, rfl, rfl, hp2, sz, ?_⟩
            exact fin _ (by rw [heldByF_def, if_neg c0, if_neg ct, if_neg c1])
    · rintro σ H' ⟨v1, v2, v3, rfl, s5, hp⟩
      rw [List.length_map, hl, List.take_length] at hp
      exact ⟨_, rfl, q H' p s5 np hp⟩
theorem ok_is_pick (T : Txt K mg CN CR CH CK) (F : GFun K mg "is_pick" s_is_pick ["node", "pick", "told_kind"]) : GOk P w K mg base CX0 1 "is_pick" ["node", "pick", "told_kind"] (spIsPick CN) := by
  obtain ⟨f, fd, hm, hk, hb, F⟩ := F
  refine ⟨f, fd, hm, hk, hb, F.ok sc_is_pick (fun vs H Q E h => ?_) (fun cdv A outer s H vs Q E hr h => ⟨_, (pss_cons (ps_if (pt_cmp (pc_eqI (pe_fld (pv 0) rfl) (pv 2)) (by rfl)) (pss_one (ps_ret (pe_cmp (pc_lt (pv 1) (pe_callB call_len_seq (by rfl) T.len PySem.boot_len (pa_cons (pe_fld (pv 0) rfl) pa_nil))) (by rfl)))) pss_nil) (pss_one (ps_ret (pe_cmp (pc_eqI (pv 1) pe_int) (by rfl))))), ?_⟩)⟩
  · obtain ⟨a, n, p, told, rfl, _⟩ := h
    rfl
  · obtain ⟨a, n, p, told, rfl, N, q⟩ := h
    unfold pickOk at q
    dsimp only [tSeq, tIfS, tNext, tB, tTest, tEqI, tNeI, tLt, tLe, tGt, tGe, tCmp, t2I, tAsg, tDrop, tRet, gName, tCons, tNil, tBM, tCB, tOp, tCallG, tCallGS, tMethG, tMakeG, tSl, tPart, tNoPart, tLst, tTup, tNot, tNotV, tAnd, tOr, tAndV, tOrV, tIf, tIsN, tNotN, tC, tUn, rU, rI, rI0]
    refine rdKindV T rfl N ⟨_, rfl, _, _, rfl, rfl, _, rfl, ?_⟩
    refine ite2 (fun c => ?_) (fun c => ?_)
    · have ct : n.kind = told := by have := of_decide_eq_true c; omega
      rw [if_pos ct] at q
      obtain ⟨dx, cc, h1, h2⟩ := N
      refine ⟨_, rfl, _, rfl, a, CN, dx, _, _, rfl, h1, T.clN, T.nKids, nF_kids n cc, cc, _, rfl, .inl (SqL.of h2), _, _, rfl, rfl, ?_⟩
      have e : decide (((p : Nat) : Int) < (((vN n.kids).length : Nat) : Int)) = decide (p < n.kids.length) := by
        rw [vN_len]
        exact decide_eq_decide.mpr (by omega)
      rw [e]
      exact q
    · have ct : ¬ n.kind = told := fun z => c (decide_eq_true (by omega))
      rw [if_neg ct] at q
      refine ⟨_, rfl, _, _, rfl, rfl, ?_⟩
      have e : decide (((p : Nat) : Int) = 0) = (p == 0) := by
        show _ = decide (p = 0)
        exact decide_eq_decide.mpr (by omega)
      rw [e]
      exact q
theorem ok_are_picks (T : Txt K mg CN CR CH CK) (F : GFun K mg "are_picks" s_are_picks ["tree", "picks", "told_kind"]) (G_is_pick : GOk P w K mg base CX0 1 "is_pick" ["node", "pick", "told_kind"] (spIsPick CN)) : GOk P w K mg base CX0 2 "are_picks" ["tree", "picks", "told_kind"] (spArePicks CN) := by
  obtain ⟨f, fd, hm, hk, hb, F⟩ := F
  refine ⟨f, fd, hm, hk, hb, F.ok sc_are_picks (fun vs H Q E h => ?_) (fun cdv A outer s H vs Q E hr h => ⟨_, (pss_cons (ps_if (pt_cmp (pc_neI (pe_callB call_len_seq (by rfl) T.len PySem.boot_len (pa_cons (pv 1) pa_nil)) (pe_callB call_len_seq (by rfl) T.len PySem.boot_len (pa_cons (pv 0) pa_nil))) (by rfl)) (pss_one (ps_ret pe_bl)) pss_nil) (pss_one (ps_ret (pe_callB (cr_all rfl) (by rfl) T.all (by decide +kernel) (pa_cons (pe_lc (own := [("node", 3), ("pick", 4)]) (g := gTup K 2 (gCons (gName 3) (gCons (gName 4) gNil))) (tt := tYes) rfl sc_are_picks.nd (te := (tCallG (spIsPick CN) E0 (tCons (tVar 3) (tCons (tVar 4) (tCons (tVar 2) tNil))))) (pi_zip (by rfl) T.zip (pa_cons (pv 0) (pa_cons (pv 1) pa_nil))) (blkOk_by (own := [("node", 3), ("pick", 4)]) (N := ["tree", "picks", "told_kind", "node", "pick"]) (sc := defScope s_are_picks) (by decide +kernel)) (fun _ _ _ _ _ => (pg_tup rfl (pgs_cons (pg_name (i := 3) sc_are_picks.nd rfl (Or.inl rfl)) (pgs_cons (pg_name (i := 4) sc_are_picks.nd rfl (Or.inl rfl)) pgs_nil)))) (fun _ _ _ _ _ => pts_nil) (fun _ _ _ _ _ => (pe_callG G_is_pick (hr.mono (by decide)) rfl pass0 (pa_cons (pv 3) (pa_cons (pv 4) (pa_cons (pv 2) pa_nil)))))) pa_nil))))), ?_⟩)⟩
  · obtain ⟨t, r, l, ps, told, rfl, _⟩ := h
    rfl
  · obtain ⟨t, r, l, ps, told, rfl, TA, W, hr', q⟩ := h
    obtain ⟨as, ht, hl, hN⟩ := id TA
    unfold arePicks at q
    dsimp only [tSeq, tIfS, tNext, tB, tTest, tEqI, tNeI, tLt, tLe, tGt, tGe, tCmp, t2I, tAsg, tDrop, tRet, gName, tCons, tNil, tBM, tCB, tOp, tCallG, tCallGS, tMethG, tMakeG, tSl, tPart, tNoPart, tLst, tTup, tNot, tNotV, tAnd, tOr, tAndV, tOrV, tIf, tIsN, tNotN, tC, tUn, rU, rI, rI0]
    refine ⟨_, rfl, r, _, rfl, .inl (SqL.of hr'), _, rfl, t, _, rfl, .inl (SqL.of ht), _, _, rfl, rfl, _, rfl, ?_⟩
    rw [vN_len, List.length_map, hl]
    refine ite2 (fun c => ?_) (fun c => ?_)
    · have c' : ps.length ≠ l.length := fun z => by
        rw [z] at c
        simp at c
      rw [if_pos c'] at q
      exact q H (Same.refl _)
    · have c' : ps.length = l.length := by
        refine Classical.byContradiction fun z => c ?_
        have : ¬ ((ps.length : Nat) : Int) = ((l.length : Nat) : Int) := by omega
        rw [decide_eq_false this]
        rfl
      rw [if_neg (fun z => z c')] at q
      refine ⟨_, rfl, _, rfl, t, r, _, _, rfl, SqL.of ht, SqL.of hr', fun D hD => ?_⟩
      refine lc_zip (K := K) (a := t) (b := r) (xs := as.map V.ref) (ys := vN ps) (by rw [List.length_map, vN_len]; omega) (fun j H' => Same H H' ∧ H' D = some (.lst (bls (List.zipWith (pickOk told) (l.take j) (ps.take j))))) ⟨same_new hD, upd_same⟩
        (fun j H' e => ⟨SqL.of (e.1 _ _ ht), SqL.of (e.1 _ _ hr')⟩) ?_ ?_
      · rintro j x y Tp H' hx hy ⟨s5, hd⟩ hT
        obtain ⟨a, n, rfl, hn, N⟩ := TreeAt.turn hl hN s5 hx
        obtain ⟨p, hp, rfl⟩ := of_vN hy
        generalize e_H0 : upd H' Tp _ = H0; have s0 : Same H' H0 := e_H0 ▸ same_new hT; have g0 := e_H0 ▸ (upd_same : upd H' Tp _ Tp = some _)
        have hj := lt_of_get hn
        have tk : List.zipWith (pickOk told) (l.take (j + 1)) (ps.take (j + 1)) = List.zipWith (pickOk told) (l.take j) (ps.take j) ++ [pickOk told n p] := by
          rw [take_snoc hn, take_snoc hp, List.zipWith_append (by rw [List.length_take, List.length_take]; omega)]
          rfl
        dsimp only [tSeq, tIfS, tNext, tB, tTest, tEqI, tNeI, tLt, tLe, tGt, tGe, tCmp, t2I, tAsg, tDrop, tRet, gName, tCons, tNil, tBM, tCB, tOp, tCallG, tCallGS, tMethG, tMakeG, tSl, tPart, tNoPart, tLst, tTup, tNot, tNotV, tAnd, tOr, tAndV, tOrV, tIf, tIsN, tNotN, tC, tUn, rU, rI, rI0]
        refine ⟨_, _, rfl, SqT.of g0, rfl, _, _, rfl, _, _, rfl, rfl, rfl, ?_⟩
        refine ⟨_, rfl, _, rfl, _, rfl, a, n, p, told, rfl, N.same s0, _, s0 _ _ hd, ?_, ?_, ?_⟩
        · unfold bls
          rw [List.length_map, List.length_zipWith, List.length_take]
          exact smallT (by have := W.len; omega)
        · exact same_late (s5.trans s0) hD
        · rw [upd_same, tk]
          unfold bls
          rw [List.map_append]
          rfl
      · rintro H' ⟨s5, hd⟩
        rw [List.length_map, hl, List.take_length, List.take_of_length_le (by omega)] at hd
        exact ⟨D, _, rfl, SqL.of hd, q H' s5⟩
theorem ok_right_wins (T : Txt K mg CN CR CH CK) (F : GFun K mg "right_wins" s_right_wins ["tree", "number"]) (G_held_all : GOk P w K mg base CX0 2 "held_all" ["tree"] (spHeldAll CN)) (G_truths : GOk P w K mg base CX0 1 "truths" ["tree"] (spTruths CN)) :
    GOk P w K mg base CX0 3 "right_wins" ["tree", "number"] (spNum CN rw_) := by
  obtain ⟨f, fd, hm, hk, hb, F⟩ := F
  refine ⟨f, fd, hm, hk, hb, F.ok sc_right_wins (fun vs H Q E h => ?_) (fun cdv A outer s H vs Q E hr h => ⟨_, (pss_cons (ps_set (i := 2) sc_right_wins.nd rfl (Or.inl rfl) (pe_ix ix_list (pe_callG G_held_all (hr.mono (by decide)) rfl pass0 (pa_cons (pv 0) pa_nil)) (pv 1) (fun _ _ => rfl))) (pss_cons (ps_if (pt_val (pe_ix ix_list (pe_callG G_truths (hr.mono (by decide)) rfl pass0 (pa_cons (pv 0) pa_nil)) (pv 1) (fun _ _ => rfl))) (pss_one (ps_ret (pv 2))) pss_nil) (pss_one (ps_ret (pe_op op_sub (pe_cI T.WHOLE) (pv 2)))))), ?_⟩)⟩
  · obtain ⟨t, i, l, rfl, _⟩ := h
    rfl
  · obtain ⟨t, i, l, rfl, TA, W, hi, q⟩ := h
    unfold rw_ at q
    dsimp only [tSeq, tIfS, tNext, tB, tTest, tEqI, tNeI, tLt, tLe, tGt, tGe, tCmp, t2I, tAsg, tDrop, tRet, gName, tCons, tNil, tBM, tCB, tOp, tCallG, tCallGS, tMethG, tMakeG, tSl, tPart, tNoPart, tLst, tTup, tNot, tNotV, tAnd, tOr, tAndV, tOrV, tIf, tIsN, tNotN, tC, tUn, rU, rI, rI0]
    refine ⟨_, rfl, t, l, rfl, TA, W, fun H1 p1 s1 n1 g1 => ?_⟩
    refine ⟨_, rfl, p1, _, _, _, rfl, rfl, SqL.of g1, hdT_at hi, ?_⟩
    refine ⟨_, rfl, t, l, rfl, TA.same s1, W, fun H2 p2 s2 n2 g2 => ?_⟩
    refine ⟨_, rfl, p2, _, _, _, rfl, rfl, SqL.of g2, truths_at hi, _, rfl, ?_⟩
    have q2 := q H2 (s1.trans s2)
    refine ite2 (fun c => ?_) (fun c => ?_)
    · rw [if_pos c] at q2
      exact ⟨_, rfl, q2⟩
    · rw [if_neg c] at q2
      refine ⟨_, rfl, _, _, rfl, rfl, ?_⟩
      have := hd_le W hi
      have e : (100 : Int) - ((hd l i : Nat) : Int) = ((100 - hd l i : Nat) : Int) := by omega
      rw [e]
      exact q2
theorem ok_picked (T : Txt K mg CN CR CH CK) (F : GFun K mg "picked" s_picked ["tree", "number"]) (G_held_all : GOk P w K mg base CX0 2 "held_all" ["tree"] (spHeldAll CN)) : GOk P w K mg base CX0 3 "picked" ["tree", "number"] (spPicked CN) := by
  obtain ⟨f, fd, hm, hk, hb, F⟩ := F
  refine ⟨f, fd, hm, hk, hb, F.ok sc_picked (fun vs H Q E h => ?_) (fun cdv A outer s H vs Q E hr h => ⟨_, (pss_cons (ps_set (i := 2) sc_picked.nd rfl (Or.inl rfl) (pe_callG G_held_all (hr.mono (by decide)) rfl pass0 (pa_cons (pv 0) pa_nil))) (pss_cons (ps_for PassesOwn.never rfl (pi_list (pe_fld (pe_ix ix_list (pv 0) (pv 1) (fun _ _ => rfl)) rfl)) (pg_name (i := 3) sc_picked.nd rfl (Or.inl rfl)) (pss_one (ps_if (pt_cmp (pc_eqI (pe_ix ix_list (pv 2) (pv 3) (fun _ _ => rfl)) (pe_ix ix_list (pv 2) (pv 1) (fun _ _ => rfl))) (by rfl)) (pss_one (ps_ret (pv 3))) pss_nil))) (pss_one (ps_ret (pv 1))))), ?_⟩)⟩
  · obtain ⟨t, i, l, n, rfl, _⟩ := h
    rfl
  · obtain ⟨t, i, l, n, rfl, TA, W, hn, q⟩ := h
    have hi := lt_of_get hn
    dsimp only [tSeq, tIfS, tNext, tB, tTest, tEqI, tNeI, tLt, tLe, tGt, tGe, tCmp, t2I, tAsg, tDrop, tRet, gName, tCons, tNil, tBM, tCB, tOp, tCallG, tCallGS, tMethG, tMakeG, tSl, tPart, tNoPart, tLst, tTup, tNot, tNotV, tAnd, tOr, tAndV, tOrV, tIf, tIsN, tNotN, tC, tUn, rU, rI, rI0]
    refine ⟨_, rfl, t, l, rfl, TA, W, fun H1 p1 s1 n1 g1 => ?_⟩
    obtain ⟨as, ht, hl, hN⟩ := TA.same s1
    obtain ⟨a, ha⟩ := get_of_lt (l := as) (by rw [hl]; exact hi)
    obtain ⟨dx, c, h1, h2⟩ := hN i a n ha hn
    refine ⟨_, rfl, _, rfl, t, _, _, _, rfl, rfl, SqL.of ht, atI_nat (by rw [List.getElem?_map, ha]; rfl), a, CN, dx, _, _, rfl, h1, T.clN, T.nKids, nF_kids n c, c, rfl, ⟨_, SqL.of h2⟩, ?_⟩
    refine for_list (K := K) (a := c) (xs := vN n.kids) (fun j σ H' => ∃ v : Option V, σ = [some (.ref t), some (.int (i : Nat)), some (.ref p1), v] ∧ H' = H1 ∧ (n.kids.take j).find? (fun c => hd l c == hd l i) = none)
      ⟨none, rfl, rfl, rfl⟩ (fun j σ H' _ ⟨_, _, e, _⟩ => by rw [e]; exact SqL.of h2) ?_ ?_
    · rintro j x σ H' hx ⟨v, rfl, rfl, hf⟩
      obtain ⟨k, hk', rfl⟩ := of_vN hx
      have hkl : k < l.length := by
        have := W.kid hn (List.mem_of_getElem? hk')
        omega
      have tk : (n.kids.take (j + 1)).find? (fun c => hd l c == hd l i) = if hd l k = hd l i then some k else none := by
        rw [take_snoc hk', List.find?_append, hf]
        rw [Option.none_or, List.find?_cons]
        by_cases z : hd l k = hd l i
        · rw [if_pos z, z, beq_self_eq_true]
        · rw [if_neg z, beq_eq_false_iff_ne.mpr z]
          rfl
      dsimp only [tSeq, tIfS, tNext, tB, tTest, tEqI, tNeI, tLt, tLe, tGt, tGe, tCmp, t2I, tAsg, tDrop, tRet, gName, tCons, tNil, tBM, tCB, tOp, tCallG, tCallGS, tMethG, tMakeG, tSl, tPart, tNoPart, tLst, tTup, tNot, tNotV, tAnd, tOr, tAndV, tOrV, tIf, tIsN, tNotN, tC, tUn, rU, rI, rI0]
      refine ⟨_, rfl, _, rfl, p1, _, _, _, rfl, rfl, SqL.of g1, hdT_at hkl, _, rfl, _, rfl, p1, _, _, _, rfl, rfl, SqL.of g1, hdT_at hi, _, _, rfl, rfl, _, rfl, ?_⟩
      refine ite2 (fun c => ?_) (fun c => ?_)
      · have c' : hd l k = hd l i := by have := of_decide_eq_true c; omega
        rw [if_pos c'] at tk
        have e : pk l i n = k := by
          unfold pk
          have : n.kids.find? (fun c => hd l c == hd l i) = some k := by
            rw [← List.take_append_drop (j + 1) n.kids, List.find?_append, tk]
            rfl
          rw [this]
          rfl
        have := q H' s1
        rw [e] at this
        exact ⟨_, rfl, this⟩
      · have c' : ¬ hd l k = hd l i := fun z => c (decide_eq_true (by omega))
        rw [if_neg c'] at tk
        exact ⟨_, rfl, rfl, tk⟩
    · rintro σ H' ⟨v, rfl, rfl, hf⟩
      rw [vN_len, List.take_length] at hf
      have e : pk l i n = i := by
        unfold pk
        rw [hf]
        rfl
      have := q H' s1
      rw [e] at this
      exact ⟨_, rfl, this⟩
end
end Dis
end
section
set_option linter.all false
set_option maxRecDepth 100000
set_option maxHeartbeats 4000000
namespace Dis
open PySem PySem.Spec PyProof.Rows L2
open Kp365 (Node)
section
variable {P : Program} {w : World} {K : PySem.W.Frag} {mg : Str → Option Value} {base : Heap} {CN CR CH CK : Addr}
theorem ok_way_from (T : Txt K mg CN CR CH CK) (F : GFun K mg "way_from" s_way_from ["tree", "number"]) (G_picked : GOk P w K mg base CX0 3 "picked" ["tree", "number"] (spPicked CN)) : GOk P w K mg base CX0 4 "way_from" ["tree", "number"] (spRow CN wayOf) := by
  obtain ⟨f, fd, hm, hk, hb, F⟩ := F
  refine ⟨f, fd, hm, hk, hb, F.ok sc_way_from (fun vs H Q E h => ?_) (fun cdv A outer s H vs Q E hr h => ⟨_, (pss_cons (ps_set (i := 2) sc_way_from.nd rfl (Or.inl rfl) (pe_lst (pa_cons (pv 1) pa_nil))) (pss_cons (ps_while PassesOwn.never (pt_cmp (pc_neI (pe_fld (pe_ix ix_list (pv 0) (pe_ix ix_list (pv 2) (pe_un un_neg pe_int) (fun _ _ => rfl)) (fun _ _ => rfl)) rfl) (pe_cI T.LEAF)) (by rfl)) (pss_one (ps_expr (pe_bm PySem.F.plainAttrs_list PySem.F.slot_list_append PySem.F.type_list_append mt_append (pv 2) (pa_cons (pe_callG G_picked (hr.mono (by decide)) rfl pass0 (pa_cons (pv 0) (pa_cons (pe_ix ix_list (pv 2) (pe_un un_neg pe_int) (fun _ _ => rfl)) pa_nil))) pa_nil))))) (pss_one (ps_ret (pv 2))))), ?_⟩)⟩
  · obtain ⟨t, i, l, rfl, _⟩ := h
    rfl
  · obtain ⟨t, i0, l, rfl, TA, W, hi0, q⟩ := h
    obtain ⟨as, ht, hl, hN⟩ := id TA
    dsimp only [tSeq, tIfS, tNext, tB, tTest, tEqI, tNeI, tLt, tLe, tGt, tGe, tCmp, t2I, tAsg, tDrop, tRet, gName, tCons, tNil, tBM, tCB, tOp, tCallG, tCallGS, tMethG, tMakeG, tSl, tPart, tNoPart, tLst, tTup, tNot, tNotV, tAnd, tOr, tAndV, tOrV, tIf, tIsN, tNotN, tC, tUn, rU, rI, rI0]
    refine ⟨_, rfl, small (by show 1 ≤ 100000; decide), fun p np => ?_⟩
    generalize e_H1 : upd H p _ = H1; have s1 : Same H H1 := e_H1 ▸ same_new np; have g1 := e_H1 ▸ (upd_same : upd H p _ p = some _)
    refine ⟨fun m σ H' => ∃ (pre : List Nat) (fu : Nat), σ = [some (.ref t), some (.int (i0 : Nat)), some (.ref p)] ∧ Same H H' ∧ H' p = some (.lst (vN (pre ++ [m]))) ∧ m < l.length ∧ m < fu ∧ pre ++ Kp365.way ⟨l⟩ fu m = wayOf l i0 ∧ pre.length + m ≤ 20,
      ⟨i0, [], 21, rfl, s1, g1, hi0, by have := W.len; omega, rfl, by have := W.len; simp; omega⟩, ?_⟩
    rintro c σ H' ⟨pre, fu, rfl, s5, hp, hc, hcf, hw, h20⟩
    obtain ⟨n, hn⟩ := get_of_lt hc
    obtain ⟨a, ha⟩ := get_of_lt (l := as) (by rw [hl]; exact hc)
    obtain ⟨dx, cc, h1, h2⟩ := (hN c a n ha hn).same s5
    have last : atI (vN (pre ++ [c])) (-1) = some (.int (c : Nat)) := by
      rw [vN_app]
      exact atI_last _ _
    have ht5 := s5 _ _ ht
    have htc : atI (as.map V.ref) (c : Int) = some (.ref a) := atI_nat (by rw [List.getElem?_map, ha]; rfl)
    dsimp only [tSeq, tIfS, tNext, tB, tTest, tEqI, tNeI, tLt, tLe, tGt, tGe, tCmp, t2I, tAsg, tDrop, tRet, gName, tCons, tNil, tBM, tCB, tOp, tCallG, tCallGS, tMethG, tMakeG, tSl, tPart, tNoPart, tLst, tTup, tNot, tNotV, tAnd, tOr, tAndV, tOrV, tIf, tIsN, tNotN, tC, tUn, rU, rI, rI0]
    refine ⟨_, rfl, _, rfl, _, rfl, p, _, _, _, rfl, rfl, SqL.of hp, last, t, _, _, _, rfl, rfl, SqL.of ht5, htc, a, CN, dx, _, _, rfl, h1, T.clN, T.nKind, nF_kind n cc, _, _, rfl, rfl, _, rfl, ?_⟩
    refine ite2 (fun cd => ?_) (fun cd => ?_)
    · have c0 : ¬ n.kind = 0 := fun z => by
        rw [z] at cd
        simp at cd
      have U : UpOk c n := (W.node c n hn).resolve_left fun L => c0 L.1
      obtain ⟨pe, pm⟩ := pick_up W hn U
      have lt := W.kid hn pm
      obtain ⟨fu', rfl⟩ : ∃ f', fu = f' + 1 := ⟨fu - 1, by omega⟩
      rw [way_up W hn U] at hw
      refine ⟨fun σ' H'' => ∃ (pre : List Nat) (fu : Nat), σ' = [some (.ref t), some (.int (i0 : Nat)), some (.ref p)] ∧ Same H H'' ∧ H'' p = some (.lst (vN (pre ++ [pk l c n]))) ∧ pk l c n < l.length ∧ pk l c n < fu ∧ pre ++ Kp365.way ⟨l⟩ fu (pk l c n) = wayOf l i0 ∧ pre.length + pk l c n ≤ 20,
        fun σ' H'' z => ⟨_, lt, z⟩, ?_⟩
      dsimp only [tSeq, tIfS, tNext, tB, tTest, tEqI, tNeI, tLt, tLe, tGt, tGe, tCmp, t2I, tAsg, tDrop, tRet, gName, tCons, tNil, tBM, tCB, tOp, tCallG, tCallGS, tMethG, tMakeG, tSl, tPart, tNoPart, tLst, tTup, tNot, tNotV, tAnd, tOr, tAndV, tOrV, tIf, tIsN, tNotN, tC, tUn, rU, rI, rI0]
      refine ⟨_, rfl, .inl ⟨rfl, _, SqL.of hp⟩, _, rfl, _, rfl, _, rfl, p, _, _, _, rfl, rfl, SqL.of hp, last, t, c, l, n, rfl, TA.same s5, W, hn, fun H2 s2 => ?_⟩
      refine ⟨p, _, _, rfl, rfl, s2 _ _ hp, ?_, pre ++ [c], fu', rfl, same_late (s5.trans s2) np, ?_, by omega, by omega, ?_, ?_⟩
      · rw [vN_len, List.length_append]
        exact smallT (by simp; omega)
      · rw [upd_same, vN_app (pre ++ [c])]
        rfl
      · rw [List.append_assoc]
        exact hw
      · rw [List.length_append]
        simp
        omega
    · have c0 : n.kind = 0 := by
        refine Classical.byContradiction fun z => cd ?_
        have : ¬ ((n.kind : Nat) : Int) = 0 := by omega
        rw [decide_eq_false this]
        rfl
      obtain ⟨fu', rfl⟩ : ∃ f', fu = f' + 1 := ⟨fu - 1, by omega⟩
      rw [way_leaf hn c0] at hw
      rw [hw] at hp
      exact ⟨_, rfl, q H' p s5 hp⟩
theorem ok_best_leaf (T : Txt K mg CN CR CH CK) (F : GFun K mg "best_leaf" s_best_leaf ["tree", "number"]) (G_right_wins : GOk P w K mg base CX0 3 "right_wins" ["tree", "number"] (spNum CN rw_)) (G_leaves_of : GOk P w K mg base CX0 2 "leaves_of" ["tree", "number"] (spRow CN lv))
    (G_misread_so : GOk P w K mg base CX0 4 "misread_so" ["tree", "number", "misread"] (spMisr CN)) : GOk P w K mg base CX0 5 "best_leaf" ["tree", "number"] (spBest CN) := by
  obtain ⟨f, fd, hm, hk, hb, F⟩ := F
  refine ⟨f, fd, hm, hk, hb, F.ok sc_best_leaf (fun vs H Q E h => ?_) (fun cdv A outer s H vs Q E hr h => ⟨_, (pss_cons (ps_par (i := 2) (j := 3) (by rfl) sc_best_leaf.nd rfl rfl (by decide) rfl rfl (pa_cons pe_non (pa_cons (pe_callG G_right_wins (hr.mono (by decide)) rfl pass0 (pa_cons (pv 0) (pa_cons (pv 1) pa_nil))) pa_nil)) (by rfl)) (pss_cons (ps_for PassesOwn.never rfl (pi_list (pe_callG G_leaves_of (hr.mono (by decide)) rfl pass0 (pa_cons (pv 0) (pa_cons (pv 1) pa_nil)))) (pg_name (i := 4) sc_best_leaf.nd rfl (Or.inl rfl)) (pss_cons (ps_set (i := 5) sc_best_leaf.nd rfl (Or.inl rfl) (pe_callG G_right_wins (hr.mono (by decide)) rfl pass0 (pa_cons (pe_callG G_misread_so (hr.mono (by decide)) rfl pass0 (pa_cons (pv 0) (pa_cons (pv 4) (pa_cons pe_int pa_nil)))) (pa_cons (pv 1) pa_nil)))) (pss_one (ps_if (pt_cmp (pc_gt (pv 5) (pv 3)) (by rfl)) (pss_one (ps_par (i := 2) (j := 3) (by rfl) sc_best_leaf.nd rfl rfl (by decide) rfl rfl (pa_cons (pv 4) (pa_cons (pv 5) pa_nil)) (by rfl))) pss_nil)))) (pss_one (ps_ret (pe_ifExp (pt_cmp (pc_isN (pv 2)) (by rfl)) pe_non (pe_tup (pa_cons (pv 2) (pa_cons (pv 3) pa_nil)))))))), ?_⟩)⟩
  · obtain ⟨t, i, l, rfl, _⟩ := h
    rfl
  · obtain ⟨t, i0, l, rfl, TA, W, hi0, q1, q2⟩ := h
    dsimp only [tSeq, tIfS, tNext, tB, tTest, tEqI, tNeI, tLt, tLe, tGt, tGe, tCmp, t2I, tAsg, tDrop, tRet, gName, tCons, tNil, tBM, tCB, tOp, tCallG, tCallGS, tMethG, tMakeG, tSl, tPart, tNoPart, tLst, tTup, tNot, tNotV, tAnd, tOr, tAndV, tOrV, tIf, tIsN, tNotN, tC, tUn, rU, rI, rI0]
    refine ⟨_, rfl, _, rfl, t, i0, l, rfl, TA, W, hi0, fun H1 s1 => ⟨_, _, rfl, ?_⟩⟩
    dsimp only [tSeq, tIfS, tNext, tB, tTest, tEqI, tNeI, tLt, tLe, tGt, tGe, tCmp, t2I, tAsg, tDrop, tRet, gName, tCons, tNil, tBM, tCB, tOp, tCallG, tCallGS, tMethG, tMakeG, tSl, tPart, tNoPart, tLst, tTup, tNot, tNotV, tAnd, tOr, tAndV, tOrV, tIf, tIsN, tNotN, tC, tUn, rU, rI, rI0]
    refine ⟨_, rfl, _, rfl, t, i0, l, rfl, TA.same s1, W, hi0, fun H2 a s2 g2 => ?_⟩
    let oV : Option Nat → V := fun o => match o with | none => .non | some j => .int (j : Nat)
    refine ⟨a, rfl, ⟨_, SqL.of g2⟩, for_list (K := K) (a := a) (xs := vN (lv l i0)) (fun j σ H' => ∃ v1 v2 : Option V, σ = [some (.ref t), some (.int (i0 : Nat)), some (oV (((lv l i0).take j).foldl (bestGo l i0) (none, rw_ l i0)).1), some (.int ((((lv l i0).take j).foldl (bestGo l i0) (none, rw_ l i0)).2 : Nat)), v1, v2] ∧ Same H2 H')
      ⟨none, none, rfl, Same.refl _⟩ (fun j σ H' _ ⟨_, _, _, s5⟩ => SqL.of (s5 _ _ g2)) ?_ ?_⟩
    · rintro j x σ H' hx ⟨v1, v2, rfl, s5⟩
      obtain ⟨k, hk', rfl⟩ := of_vN hx
      obtain ⟨hkl, m, hm', L⟩ := lv_leaf W hi0 (List.mem_of_getElem? hk')
      have tk : ((lv l i0).take (j + 1)).foldl (bestGo l i0) (none, rw_ l i0) = bestGo l i0 (((lv l i0).take j).foldl (bestGo l i0) (none, rw_ l i0)) k := by
        rw [take_snoc hk', List.foldl_append]
        rfl
      generalize ((lv l i0).take j).foldl (bestGo l i0) (none, rw_ l i0) = S at tk
      rw [tk]
      dsimp only [tSeq, tIfS, tNext, tB, tTest, tEqI, tNeI, tLt, tLe, tGt, tGe, tCmp, t2I, tAsg, tDrop, tRet, gName, tCons, tNil, tBM, tCB, tOp, tCallG, tCallGS, tMethG, tMakeG, tSl, tPart, tNoPart, tLst, tTup, tNot, tNotV, tAnd, tOr, tAndV, tOrV, tIf, tIsN, tNotN, tC, tUn, rU, rI, rI0]
      refine ⟨_, rfl, _, rfl, t, k, 0, l, rfl, ((TA.same s1).same s2).same s5, W.len, hkl, fun H3 p3 s3 n3 T3 => ?_⟩
      refine ⟨_, rfl, p3, i0, _, rfl, T3, W.mis hm' (Nat.zero_le _), by rw [misr_len hkl]; exact hi0, fun H4 s4 => ?_⟩
      refine ⟨_, rfl, _, rfl, _, _, rfl, rfl, _, rfl, ?_⟩
      refine ite2 (fun c => ?_) (fun c => ?_)
      · have c' : S.2 < rw_ (misr l k 0) i0 := by have := of_decide_eq_true c; omega
        refine ⟨_, rfl, _, rfl, _, _, rfl, some (.int (k : Nat)), some (.int (rw_ (misr l k 0) i0 : Nat)), ?_, s5.trans (s3.trans s4)⟩
        unfold bestGo
        rw [if_pos c']
        rfl
      · have c' : ¬ S.2 < rw_ (misr l k 0) i0 := fun z => c (decide_eq_true (by omega))
        refine ⟨some (.int (k : Nat)), some (.int (rw_ (misr l k 0) i0 : Nat)), ?_, s5.trans (s3.trans s4)⟩
        unfold bestGo
        rw [if_neg c']
        rfl
    · rintro σ H' ⟨v1, v2, rfl, s5⟩
      have eb : (lv l i0).foldl (bestGo l i0) (none, rw_ l i0) = best l i0 := rfl
      rw [vN_len, List.take_length, eb]
      have sH : Same H H' := (s1.trans s2).trans s5
      cases e : (best l i0).1 with
      | none =>
        refine ⟨_, rfl, _, rfl, iteT ?_⟩
        exact q1 e H' sH
      | some j =>
        refine ⟨_, rfl, _, rfl, iteF ?_⟩
        refine ⟨_, rfl, _, rfl, small (by show 2 ≤ 100000; decide), fun p np => ?_⟩
        exact q2 j e _ p (same_late sH (sH.free np)) upd_same
end
end Dis
end
section
set_option linter.all false
set_option maxRecDepth 100000
set_option maxHeartbeats 2000000
/-! # The holder's promises -/
namespace Dis
open PySem PySem.Spec PyProof.Rows L2
open Kp365 (Node)
def nums (xs : List Int) : List V := xs.map V.int
/-- what a refusal leaves -/
def Ref (CR : Addr) (H : Hp) (n : Int) (E : XK) : Prop := ∀ (H' : Hp) (d : Addr), Same H H' → H' d = some (.xd [("number", .int n)]) → E (.ref CR) (some d) H'
theorem Ref.late {CR : Addr} {H H1 : Hp} {n : Int} {E : XK} (r : Ref CR H n E) (s : Same H H1) : Ref CR H1 n E := fun H' d s' h => r H' d (s.trans s') h
def But (h : Addr) (H H' : Hp) : Prop := ∀ b o, H b = some o → b ≠ h → H' b = some o
theorem same_but {H H' : Hp} (s : Same H H') (h : Addr) : But h H H' := fun b o e _ => s b o e
theorem But.trans {h : Addr} {H H1 H2 : Hp} (a : But h H H1) (b : But h H1 H2) : But h H H2 := fun c o e ne => b c o (a c o e ne) ne
def HolAt (CN CH : Addr) (H : Hp) (h : Addr) (l : List Node) : Prop := ∃ dx t, H h = some (.ins CH dx [("tree", .ref t)]) ∧ TreeAt CN H t l
theorem HolAt.same {CN CH : Addr} {H H' : Hp} {h : Addr} {l : List Node} (A : HolAt CN CH H h l) (s : Same H H') : HolAt CN CH H' h l := by
  obtain ⟨dx, t, h1, h2⟩ := A
  exact ⟨dx, t, s _ _ h1, h2.same s⟩
def spRefInit (CR : Addr) : Sp := fun vs H Q _ => ∃ (a : Addr) (n : Int), vs = [.ref a, .int n] ∧ H a = some (exo a CR none) ∧ ∀ dx, H dx = none → dx ≠ a → Q .non (upd (upd H dx (exd dx [("number", .int n)])) a (exo a CR (some dx)))
def spNeed (CR : Addr) : Sp := fun vs H Q E => ∃ (b : Bool) (n : Int), vs = [.bl b, .int n] ∧ (b = true → Q .non H) ∧ (b = false → Ref CR H n E)
def spDivisor : Sp := fun vs H Q _ => ∃ a b : Nat, vs = [.int (a : Nat), .int (b : Nat)] ∧ Q (.int (Nat.gcd a b : Nat)) H
def spFraction : Sp := fun vs H Q _ => ∃ h : Nat, vs = [.int (h : Nat)] ∧ NewL H (nums (frac h)) Q
def spCounted : Sp := fun vs H Q _ => ∃ (r : Addr) (xs : List V), vs = [.ref r] ∧ H r = some (.lst xs) ∧ xs.length ≤ 1000 ∧ NewL H (.int (xs.length : Nat) :: xs) Q
def spHolInit (CH : Addr) : Sp := fun vs H Q _ => ∃ p dx : Addr, vs = [.ref p] ∧ H p = some (.ins CH dx []) ∧ ∀ t, H t = none → Q .non (upd (upd H t (.lst [])) p (.ins CH dx [("tree", .ref t)]))
def spNeedNode (CN CH CR : Addr) : Sp := fun vs H Q E => ∃ (h : Addr) (i : Nat) (l : List Node), vs = [.ref h, .int (i : Nat)] ∧ HolAt CN CH H h l ∧ (i < l.length → Q .non H) ∧ (¬ i < l.length → Ref CR H (-2) E)
def spNeedLeaf (CN CH CR : Addr) : Sp := fun vs H Q E => ∃ (h : Addr) (i : Nat) (l : List Node) (n : Node), vs = [.ref h, .int (i : Nat)] ∧ HolAt CN CH H h l ∧ l[i]? = some n ∧ (n.kind = 0 → Q .non H) ∧ (¬ n.kind = 0 → Ref CR H (-33) E)
def spNeedLeafOf (CN CH CR : Addr) : Sp := fun vs H Q E => ∃ (h : Addr) (i j : Nat) (l : List Node), vs = [.ref h, .int (i : Nat), .int (j : Nat)] ∧ HolAt CN CH H h l ∧ WF l ∧ i < l.length ∧
  (j ∈ lv l i → ∀ H', Same H H' → Q .non H') ∧ (¬ j ∈ lv l i → Ref CR H (-33) E)
def spPut (CN CH CR : Addr) : Sp := fun vs H Q E => ∃ (h a : Addr) (l : List Node) (n : Node), vs = [.ref h, .ref a] ∧ HolAt CN CH H h l ∧ l.length ≤ 20 ∧ NodeAt CN H a n ∧
  (l.length < 20 → ∀ (H' : Hp) (p : Addr), HolAt CN CH H' h (l ++ [n]) → But h H H' → H' p = some (.lst (nums [(l.length : Nat)])) → Q (.ref p) H') ∧ (¬ l.length < 20 → Ref CR H (-28) E)
/-- what a call tells, by the specification's own step -/
structure Told (CN CH CR : Addr) (H : Hp) (h : Addr) (l : List Node) (c : Kp365.Call) (Q : VK) (E : XK) : Prop where
  ok : ∀ (H' : Hp) (p : Addr) (l' : List Node) (a : Kp365.Ans), Kp365.step (some ⟨l⟩) c = (some ⟨l'⟩, a) → WF l' → HolAt CN CH H' h l' → But h H H' → H' p = some (.lst (nums (a.num :: a.nums))) → a.nums.length ≤ 21 → Q (.ref p) H'
  no : ∀ n, Kp365.step (some ⟨l⟩) c = (some ⟨l⟩, Kp365.say n) → Ref CR H n E
theorem Told.ask {CN CH CR : Addr} {H H' : Hp} {h p : Addr} {l : List Node} {c : Kp365.Call} {Q : VK} {E : XK} {a : Kp365.Ans} (T : Told CN CH CR H h l c Q E) (W : WF l) (A : HolAt CN CH H h l) (s : Same H H') (e : Kp365.step (some ⟨l⟩) c = (some ⟨l⟩, a))
    (hp : H' p = some (.lst (nums (a.num :: a.nums)))) (hz : a.nums.length ≤ 21) : Q (.ref p) H' := T.ok H' p l a e W (A.same s) (fun b o e _ => s b o e) hp hz
def spQ0 (CN CH CR : Addr) (c : Kp365.Call) : Sp := fun vs H Q E => ∃ (h : Addr) (l : List Node), vs = [.ref h] ∧ HolAt CN CH H h l ∧ WF l ∧ Told CN CH CR H h l c Q E
def spQ1 (CN CH CR : Addr) (c : Nat → Kp365.Call) : Sp := fun vs H Q E => ∃ (h : Addr) (i : Nat) (l : List Node), vs = [.ref h, .int (i : Nat)] ∧ HolAt CN CH H h l ∧ WF l ∧ Told CN CH CR H h l (c i) Q E
def spQ2 (CN CH CR : Addr) (c : Nat → Nat → Kp365.Call) : Sp := fun vs H Q E => ∃ (h : Addr) (i j : Nat) (l : List Node), vs = [.ref h, .int (i : Nat), .int (j : Nat)] ∧ HolAt CN CH H h l ∧ WF l ∧ Told CN CH CR H h l (c i j) Q E
def spQ3 (CN CH CR : Addr) (c : Nat → Nat → Nat → Kp365.Call) : Sp := fun vs H Q E => ∃ (h : Addr) (i j w : Nat) (l : List Node), vs = [.ref h, .int (i : Nat), .int (j : Nat), .int (w : Nat)] ∧ HolAt CN CH H h l ∧ WF l ∧ Told CN CH CR H h l (c i j w) Q E
def spFree (CN CH : Addr) : Sp := fun vs H Q _ => ∃ (h r : Addr) (l : List Node) (row : List Nat), vs = [.ref h, .ref r] ∧ HolAt CN CH H h l ∧ WF l ∧ H r = some (.lst (vN row)) ∧ row.length ≤ 6 ∧ ∀ H', Same H H' → Q (.bl (areFree l row)) H'
def spAbove (CN CH CR : Addr) : Sp := fun vs H Q E => ∃ (h r : Addr) (kind : Nat) (l : List Node) (row : List Nat), vs = [.ref h, .int (kind : Nat), .ref r] ∧ HolAt CN CH H h l ∧ WF l ∧ H r = some (.lst (vN row)) ∧ row.length ≤ 6 ∧ (kind = 1 ∨ kind = 2) ∧
  Told CN CH CR H h l (upC kind row) Q E
def spByPicks (CN CH CR : Addr) : Sp := fun vs H Q E => ∃ (h r : Addr) (i kind : Nat) (l : List Node) (ps : List Nat), vs = [.ref h, .int (i : Nat), .ref r, .int (kind : Nat)] ∧ HolAt CN CH H h l ∧ WF l ∧ H r = some (.lst (vN ps)) ∧ (kind = 1 ∨ kind = 2) ∧ Told CN CH CR H h l (byC kind i ps) Q E
def spBy (CN CH CR : Addr) (kind : Nat) : Sp := fun vs H Q E => ∃ (h r : Addr) (i : Nat) (l : List Node) (ps : List Nat), vs = [.ref h, .int (i : Nat), .ref r] ∧ HolAt CN CH H h l ∧ WF l ∧ H r = some (.lst (vN ps)) ∧ Told CN CH CR H h l (byC kind i ps) Q E
/-- the text of Refused.__init__ as it stands -/
def RFun (K : PySem.W.Frag) (CR : Addr) (st : Stmt) : Prop := ∃ (f : Addr) (fd : FuncData), PySem.W.findIn K (.ref CR) "__init__" = some (some (.ref f)) ∧ PySem.W.typeIn K (.ref f) = some (.type "function") ∧ Binds K fd ["self", "number"] [] ∧ Fun K "__init__" "Refused.__init__" st f fd
theorem tree_no {m : Str} {t : V} (h : (m == ("tree" : Str)) = false) : ([(("tree" : Str), t)] : List (Str × V)).lookup m = none := (lk_past h).trans rfl
def rLenS (K : PySem.W.Frag) : List V → Hp → VK → Prop := fun xs H Q => ∃ p ys, xs = [.ref p] ∧ (SqL K H p ys ∨ SqT K H p ys) ∧ Q (.int ys.length) H
theorem inV_int {j : Nat} : ∀ ks : List Nat, inV (.int (j : Nat)) (vN ks) = decide (j ∈ ks)
  | [] => rfl
  | k :: r => by
    have ih := inV_int (j := j) r
    show (eqV (.int (k : Nat)) (.int (j : Nat)) || inV (.int (j : Nat)) (vN r)) = _
    rw [ih]
    have e : eqV (.int (k : Nat)) (.int (j : Nat)) = decide (j = k) := by
      show (((k : Nat) : Int) == ((j : Nat) : Int)) = _
      by_cases c : j = k
      · rw [c, beq_self_eq_true, decide_eq_true rfl]
      · rw [beq_eq_false_iff_ne.mpr (by omega), decide_eq_false c]
    rw [e]
    by_cases c : j = k
    · rw [decide_eq_true c, Bool.true_or, decide_eq_true (List.mem_cons.mpr (.inl c))]
    · rw [decide_eq_false c, Bool.false_or]
      exact decide_eq_decide.mpr ⟨fun z => List.mem_cons_of_mem _ z, fun z => (List.mem_cons.mp z).resolve_left c⟩
theorem vN_flat (ks : List Nat) : (vN ks).all flatV = true := by
  rw [List.all_eq_true]
  intro v hv
  obtain ⟨k, _, rfl⟩ := List.mem_map.mp hv
  rfl
end Dis
end
section
set_option linter.all false
set_option maxRecDepth 100000
set_option maxHeartbeats 4000000
namespace Dis
open PySem PySem.Spec PyProof.Rows L2
open Kp365 (Node)
abbrev s_Refused_init : Stmt := inClass (top 35) 0
theorem sc_Refused_init : FnScope ["self", "number"] ["self", "number"] (defScope s_Refused_init) := ⟨rfl, rfl, rfl, by decide +kernel, rfl, by decide +kernel, by decide +kernel⟩
abbrev s_need : Stmt := top 36
theorem sc_need : FnScope ["is_so", "number"] ["is_so", "number"] (defScope s_need) := ⟨rfl, rfl, rfl, by decide +kernel, rfl, by decide +kernel, by decide +kernel⟩
abbrev s_divisor : Stmt := top 37
theorem sc_divisor : FnScope ["one", "other"] ["one", "other"] (defScope s_divisor) := ⟨rfl, rfl, rfl, by decide +kernel, rfl, by decide +kernel, by decide +kernel⟩
abbrev s_fraction : Stmt := top 38
theorem sc_fraction : FnScope ["hundredths", "by"] ["hundredths"] (defScope s_fraction) := ⟨rfl, rfl, rfl, by decide +kernel, rfl, by decide +kernel, by decide +kernel⟩
abbrev s_counted : Stmt := top 39
theorem sc_counted : FnScope ["numbers"] ["numbers"] (defScope s_counted) := ⟨rfl, rfl, rfl, by decide +kernel, rfl, by decide +kernel, by decide +kernel⟩
abbrev s_Holder_init : Stmt := inClass (top 40) 0
theorem sc_Holder_init : FnScope ["self"] ["self"] (defScope s_Holder_init) := ⟨rfl, rfl, rfl, by decide +kernel, rfl, by decide +kernel, by decide +kernel⟩
section
variable {P : Program} {w : World} {K : PySem.W.Frag} {mg : Str → Option Value} {base : Heap} {CN CR CH CK : Addr}
theorem ok_need (T : Txt K mg CN CR CH CK) (R : RFun K CR s_Refused_init) (F : GFun K mg "need" s_need ["is_so", "number"]) : GOk P w K mg base (L2.CX P w) 3 "need" ["is_so", "number"] (spNeed CR) := by
  obtain ⟨fI, fdI, iC, tI, bI, FI⟩ := R
  have F1 : FnOk P w K mg base CX0 1 fI fdI ["self", "number"] (spRefInit CR) := by
    refine FI.ok sc_Refused_init (fun vs H Q E h => ?_) (fun cdv A outer s H vs Q E hr h => ⟨_, (pss_cons (ps_expr (pe_veinit rfl T.valueError T.veI (pa_cons (pv 0) (pa_cons pe_str pa_nil)))) (pss_one (ps_ost (pv 0) (pv 1)))), ?_⟩)
    · obtain ⟨a, n, rfl, _⟩ := h
      rfl
    · obtain ⟨a, n, rfl, ha, q⟩ := h
      dsimp only [tSeq, tIfS, tNext, tB, tTest, tEqI, tNeI, tLt, tLe, tGt, tGe, tCmp, t2I, tAsg, tDrop, tRet, gName, tCons, tNil, tBM, tCB, tOp, tCallG, tCallGS, tMethG, tMakeG, tSl, tPart, tNoPart, tLst, tTup, tNot, tNotV, tAnd, tOr, tAndV, tOrV, tIf, tIsN, tNotN, tC, tUn, rU, rI, rI0]
      refine ⟨_, rfl, a, CR, _, rfl, by decide, T.oR, ha, ?_⟩
      exact ⟨_, rfl, _, rfl, a, CR, rfl, T.oR, T.nNumber, .inl ⟨ha, fun dx nd ne => q dx nd ne⟩⟩
  obtain ⟨f, fd, hm, hk, hb, F⟩ := F
  refine ⟨f, fd, hm, hk, hb, F.okX sc_need (fun vs H Q E h => ?_) (fun cdv A outer s H vs Q E hr h => ⟨_, (pss_one (ps_if (pt_not (pt_val (pv 0))) (pss_one (ps_raise rfl (takes_of rfl rfl rfl rfl) (pmk_oex T.oR iC tI F1 (hr.mono (by decide)) bI .nil pass0 rfl T.gR (pa_cons (pv 1) pa_nil)))) pss_nil)), ?_⟩)⟩
  · obtain ⟨b, n, rfl, _⟩ := h
    rfl
  · obtain ⟨b, n, rfl, q1, q2⟩ := h
    dsimp only [tSeq, tIfS, tNext, tB, tTest, tEqI, tNeI, tLt, tLe, tGt, tGe, tCmp, t2I, tAsg, tDrop, tRet, gName, tCons, tNil, tBM, tCB, tOp, tCallG, tCallGS, tMethG, tMakeG, tSl, tPart, tNoPart, tLst, tTup, tNot, tNotV, tAnd, tOr, tAndV, tOrV, tIf, tIsN, tNotN, tC, tUn, rU, rI, rI0]
    refine ⟨_, rfl, _, rfl, ?_⟩
    cases b with
    | true => exact iteF (q1 rfl)
    | false =>
      refine iteT ?_
      refine ⟨_, rfl, by show 1 ≤ 1000; decide, fun a na => ⟨a, n, rfl, upd_same, fun dx nd ne => ⟨rfl, dx, [("number", .int n)], upd_same, ?_, ?_, ?_⟩⟩⟩
      · rw [upd_ne ne, upd_same]
      · rw [upd_ne ne] at nd
        exact nd
      · refine q2 rfl _ dx (fun b o e => ?_) upd_same
        have nb1 : b ≠ a := ne_of_none e na
        have nb2 : b ≠ dx := by
          rw [upd_ne ne] at nd
          exact ne_of_none e nd
        rw [upd_ne nb2, del_ne nb1, upd_ne nb1, upd_ne nb2, upd_ne nb1]
        exact e
theorem ok_divisor (T : Txt K mg CN CR CH CK) (F : GFun K mg "divisor" s_divisor ["one", "other"]) : GOk P w K mg base CX0 1 "divisor" ["one", "other"] spDivisor := by
  obtain ⟨f, fd, hm, hk, hb, F⟩ := F
  refine ⟨f, fd, hm, hk, hb, F.ok sc_divisor (fun vs H Q E h => ?_) (fun cdv A outer s H vs Q E hr h => ⟨_, (pss_cons (ps_while PassesOwn.never (pt_cmp (pc_gt (pv 1) pe_int) (by rfl)) (pss_one (ps_par (i := 0) (j := 1) (by rfl) sc_divisor.nd rfl rfl (by decide) rfl rfl (pa_cons (pv 1) (pa_cons (pe_op op_modN (pv 0) (pv 1)) pa_nil)) (by rfl)))) (pss_one (ps_ret (pv 0)))), ?_⟩)⟩
  · obtain ⟨a, b, rfl, _⟩ := h
    rfl
  · obtain ⟨a, b, rfl, q⟩ := h
    dsimp only [tSeq, tIfS, tNext, tB, tTest, tEqI, tNeI, tLt, tLe, tGt, tGe, tCmp, t2I, tAsg, tDrop, tRet, gName, tCons, tNil, tBM, tCB, tOp, tCallG, tCallGS, tMethG, tMakeG, tSl, tPart, tNoPart, tLst, tTup, tNot, tNotV, tAnd, tOr, tAndV, tOrV, tIf, tIsN, tNotN, tC, tUn, rU, rI, rI0]
    refine ⟨fun m σ H' => ∃ x : Nat, σ = [some (.int (x : Nat)), some (.int (m : Nat))] ∧ H' = H ∧ Nat.gcd x m = Nat.gcd a b, ⟨b, a, rfl, rfl, rfl⟩, ?_⟩
    rintro y σ H' ⟨x, rfl, rfl, hg⟩
    dsimp only [tSeq, tIfS, tNext, tB, tTest, tEqI, tNeI, tLt, tLe, tGt, tGe, tCmp, t2I, tAsg, tDrop, tRet, gName, tCons, tNil, tBM, tCB, tOp, tCallG, tCallGS, tMethG, tMakeG, tSl, tPart, tNoPart, tLst, tTup, tNot, tNotV, tAnd, tOr, tAndV, tOrV, tIf, tIsN, tNotN, tC, tUn, rU, rI, rI0]
    refine ⟨_, rfl, _, _, rfl, rfl, _, rfl, ?_⟩
    refine ite2 (fun c => ?_) (fun c => ?_)
    · have hy : 0 < y := by have := of_decide_eq_true c; omega
      refine ⟨fun σ' H'' => ∃ x' : Nat, σ' = [some (.int (x' : Nat)), some (.int ((x % y : Nat) : Nat))] ∧ H'' = H' ∧ Nat.gcd x' (x % y) = Nat.gcd a b, fun σ' H'' z => ⟨x % y, Nat.mod_lt _ hy, z⟩, ?_⟩
      refine ⟨_, rfl, _, rfl, _, rfl, _, _, rfl, rfl, by omega, _, _, rfl, y, ?_, rfl, ?_⟩
      · have e : ((x : Nat) : Int).fmod ((y : Nat) : Int) = ((x % y : Nat) : Int) := by
          rw [Int.fmod_eq_emod_of_nonneg _ (by omega)]
          rfl
        show [some (V.int (y : Nat)), some (V.int (((x : Nat) : Int).fmod ((y : Nat) : Int)))] = _
        rw [e]
      · rw [← hg, Nat.gcd_comm y, ← Nat.gcd_rec, Nat.gcd_comm]
    · have hy : y = 0 := by
        refine Classical.byContradiction fun z => c (decide_eq_true ?_)
        omega
      rw [hy, Nat.gcd_zero_right] at hg
      rw [← hg] at q
      exact ⟨_, rfl, q⟩
theorem ok_fraction (T : Txt K mg CN CR CH CK) (F : GFun K mg "fraction" s_fraction ["hundredths"]) (G_divisor : GOk P w K mg base CX0 1 "divisor" ["one", "other"] spDivisor) : GOk P w K mg base CX0 2 "fraction" ["hundredths"] spFraction := by
  obtain ⟨f, fd, hm, hk, hb, F⟩ := F
  refine ⟨f, fd, hm, hk, hb, F.ok sc_fraction (fun vs H Q E h => ?_) (fun cdv A outer s H vs Q E hr h => ⟨_, (pss_cons (ps_set (i := 1) sc_fraction.nd rfl (Or.inl rfl) (pe_callG G_divisor (hr.mono (by decide)) rfl pass0 (pa_cons (pe_cI T.WHOLE) (pa_cons (pv 0) pa_nil)))) (pss_one (ps_ret (pe_lst (pa_cons (pe_op op_fdivN (pv 0) (pv 1)) (pa_cons (pe_op op_fdivN (pe_cI T.WHOLE) (pv 1)) pa_nil)))))), ?_⟩)⟩
  · obtain ⟨x, rfl, _⟩ := h
    rfl
  · obtain ⟨x, rfl, q⟩ := h
    have gp : 0 < Nat.gcd 100 x := Nat.gcd_pos_of_pos_left _ (by decide)
    have gl : Nat.gcd 100 x ≤ 100 := Nat.le_of_dvd (by decide) (Nat.gcd_dvd_left ..)
    have dv : ∀ y : Nat, ((y : Nat) : Int).fdiv ((Nat.gcd 100 x : Nat) : Int) = ((y / Nat.gcd 100 x : Nat) : Int) := fun y => by
      rw [Int.fdiv_eq_ediv_of_nonneg _ (by omega)]
      rfl
    dsimp only [tSeq, tIfS, tNext, tB, tTest, tEqI, tNeI, tLt, tLe, tGt, tGe, tCmp, t2I, tAsg, tDrop, tRet, gName, tCons, tNil, tBM, tCB, tOp, tCallG, tCallGS, tMethG, tMakeG, tSl, tPart, tNoPart, tLst, tTup, tNot, tNotV, tAnd, tOr, tAndV, tOrV, tIf, tIsN, tNotN, tC, tUn, rU, rI, rI0]
    refine ⟨_, rfl, 100, x, rfl, ?_⟩
    refine ⟨_, rfl, _, rfl, _, _, rfl, rfl, ⟨by omega, by omega⟩, _, rfl, _, _, rfl, rfl, ⟨by omega, by omega⟩, small (by show 2 ≤ 100000; decide), fun p np => ?_⟩
    generalize e_H1 : upd H p _ = H1; have s1 : Same H H1 := e_H1 ▸ same_new np; have g1 := e_H1 ▸ (upd_same : upd H p _ p = some _)
    refine q H1 p s1 np ?_
    rw [g1, dv]
    have e : (100 : Int).fdiv ((Nat.gcd 100 x : Nat) : Int) = ((100 / Nat.gcd 100 x : Nat) : Int) := dv 100
    rw [e]
    rfl
theorem ok_counted (T : Txt K mg CN CR CH CK) (F : GFun K mg "counted" s_counted ["numbers"]) : GOk P w K mg base CX0 1 "counted" ["numbers"] spCounted := by
  obtain ⟨f, fd, hm, hk, hb, F⟩ := F
  refine ⟨f, fd, hm, hk, hb, F.ok sc_counted (fun vs H Q E h => ?_) (fun cdv A outer s H vs Q E hr h => ⟨_, (pss_one (ps_ret (pe_op op_cat (pe_lst (pa_cons (pe_callB call_len_seq (by rfl) T.len PySem.boot_len (pa_cons (pv 0) pa_nil)) pa_nil)) (pv 0)))), ?_⟩)⟩
  · obtain ⟨r, xs, rfl, _⟩ := h
    rfl
  · obtain ⟨r, xs, rfl, hr', hz, q⟩ := h
    dsimp only [tSeq, tIfS, tNext, tB, tTest, tEqI, tNeI, tLt, tLe, tGt, tGe, tCmp, t2I, tAsg, tDrop, tRet, gName, tCons, tNil, tBM, tCB, tOp, tCallG, tCallGS, tMethG, tMakeG, tSl, tPart, tNoPart, tLst, tTup, tNot, tNotV, tAnd, tOr, tAndV, tOrV, tIf, tIsN, tNotN, tC, tUn, rU, rI, rI0]
    refine ⟨_, rfl, r, _, rfl, .inl (SqL.of hr'), small (by show 1 ≤ 100000; decide), fun p np => ?_⟩
    generalize e_H1 : upd H p _ = H1; have s1 : Same H H1 := e_H1 ▸ same_new np; have g1 := e_H1 ▸ (upd_same : upd H p _ p = some _)
    refine ⟨_, rfl, p, r, _, _, rfl, rfl, g1, s1 _ _ hr', small (by show 1 + _ ≤ _; omega), fun p2 n2 => ?_⟩
    generalize e_H2 : upd H1 p2 _ = H2; have s2 : Same H1 H2 := e_H2 ▸ same_new n2; have g2 := e_H2 ▸ (upd_same : upd H1 p2 _ p2 = some _)
    exact q H2 p2 (s1.trans s2) (s1.free n2) g2
theorem ok_Holder (T : Txt K mg CN CR CH CK) (F : CFun K mg CH "Holder" s_Holder_init ["self"]) : COk P w K mg base CX0 1 "Holder" CH ["self"] (spHolInit CH) := by
  obtain ⟨f, fd, hm, M, hb, F⟩ := F
  refine ⟨f, fd, hm, M, hb, F.ok sc_Holder_init (fun vs H Q E h => ?_) (fun cdv A outer s H vs Q E hr h => ⟨_, (pss_one (ps_fld (pv 0) (pe_lst pa_nil) rfl)), ?_⟩)⟩
  · obtain ⟨p, dx, rfl, _⟩ := h
    rfl
  · obtain ⟨p, dx, rfl, hp, q⟩ := h
    dsimp only [tSeq, tIfS, tNext, tB, tTest, tEqI, tNeI, tLt, tLe, tGt, tGe, tCmp, t2I, tAsg, tDrop, tRet, gName, tCons, tNil, tBM, tCB, tOp, tCallG, tCallGS, tMethG, tMakeG, tSl, tPart, tNoPart, tLst, tTup, tNot, tNotV, tAnd, tOr, tAndV, tOrV, tIf, tIsN, tNotN, tC, tUn, rU, rI, rI0]
    refine ⟨small (Nat.zero_le _), fun t nt => ⟨_, rfl, p, CH, dx, [], rfl, ?_, T.clH, T.nTree, (by show 0 < 1000; decide), ?_⟩⟩
    · rw [upd_ne (ne_of_none hp nt)]
      exact hp
    · exact q t nt
end
end Dis
end
section
set_option linter.all false
set_option maxRecDepth 100000
set_option maxHeartbeats 4000000
namespace Dis
open PySem PySem.Spec PyProof.Rows L2
open Kp365 (Node)
abbrev s_Holder_need_node : Stmt := inClass (top 40) 1
theorem sc_Holder_need_node : FnScope ["self", "number"] ["self", "number"] (defScope s_Holder_need_node) := ⟨rfl, rfl, rfl, by decide +kernel, rfl, by decide +kernel, by decide +kernel⟩
abbrev s_Holder_need_leaf : Stmt := inClass (top 40) 2
theorem sc_Holder_need_leaf : FnScope ["self", "number"] ["self", "number"] (defScope s_Holder_need_leaf) := ⟨rfl, rfl, rfl, by decide +kernel, rfl, by decide +kernel, by decide +kernel⟩
abbrev s_Holder_need_leaf_of : Stmt := inClass (top 40) 3
theorem sc_Holder_need_leaf_of : FnScope ["self", "number", "leaf"] ["self", "number", "leaf"] (defScope s_Holder_need_leaf_of) := ⟨rfl, rfl, rfl, by decide +kernel, rfl, by decide +kernel, by decide +kernel⟩
abbrev s_Holder_put : Stmt := inClass (top 40) 4
theorem sc_Holder_put : FnScope ["self", "node"] ["self", "node"] (defScope s_Holder_put) := ⟨rfl, rfl, rfl, by decide +kernel, rfl, by decide +kernel, by decide +kernel⟩
abbrev s_Holder_leaf : Stmt := inClass (top 40) 5
theorem sc_Holder_leaf : FnScope ["self", "so", "misread"] ["self", "so", "misread"] (defScope s_Holder_leaf) := ⟨rfl, rfl, rfl, by decide +kernel, rfl, by decide +kernel, by decide +kernel⟩
abbrev s_Holder_are_free : Stmt := inClass (top 40) 6
theorem sc_Holder_are_free : FnScope ["self", "row", "taken", "node", "number"] ["self", "row"] (defScope s_Holder_are_free) := ⟨rfl, rfl, rfl, by decide +kernel, rfl, by decide +kernel, by decide +kernel⟩
abbrev s_Holder_above : Stmt := inClass (top 40) 7
theorem sc_Holder_above : FnScope ["self", "kind", "row"] ["self", "kind", "row"] (defScope s_Holder_above) := ⟨rfl, rfl, rfl, by decide +kernel, rfl, by decide +kernel, by decide +kernel⟩
abbrev s_Holder_pop : Stmt := inClass (top 40) 8
theorem sc_Holder_pop : FnScope ["self"] ["self"] (defScope s_Holder_pop) := ⟨rfl, rfl, rfl, by decide +kernel, rfl, by decide +kernel, by decide +kernel⟩
section
variable {P : Program} {w : World} {K : PySem.W.Frag} {mg : Str → Option Value} {base : Heap} {CN CR CH CK : Addr}
theorem ok_need_node (T : Txt K mg CN CR CH CK) (F : MFun K CH "Holder" "need_node" s_Holder_need_node ["self", "number"]) (G_need : GOk P w K mg base (L2.CX P w) 3 "need" ["is_so", "number"] (spNeed CR)) : MOk P w K mg base (L2.CX P w) 4 CH "need_node" ["self", "number"] (spNeedNode CN CH CR) := by
  obtain ⟨f, fd, hm, hb, F⟩ := F
  refine ⟨f, fd, hm, hb, F.okX sc_Holder_need_node (fun vs H Q E h => ?_) (fun cdv A outer s H vs Q E hr h => ⟨_, (pss_one (ps_expr (pe_callG G_need (hr.mono (by decide)) rfl (passes_call (takes_of rfl rfl rfl rfl) (fun _ _ _ _ h => h)) (pa_cons (pe_cmp (pc_lt (pv 1) (pe_callB call_len_seq (by rfl) T.len PySem.boot_len (pa_cons (pe_fld (pv 0) rfl) pa_nil))) (by rfl)) (pa_cons (pe_cI T.NOSUCH) pa_nil))))), ?_⟩)⟩
  · obtain ⟨h, i, l, rfl, _⟩ := h
    rfl
  · obtain ⟨h, i, l, rfl, ⟨dx, t, hh, as, ht, hl, hN⟩, q1, q2⟩ := h
    dsimp only [tSeq, tIfS, tNext, tB, tTest, tEqI, tNeI, tLt, tLe, tGt, tGe, tCmp, t2I, tAsg, tDrop, tRet, gName, tCons, tNil, tBM, tCB, tOp, tCallG, tCallGS, tMethG, tMakeG, tSl, tPart, tNoPart, tLst, tTup, tNot, tNotV, tAnd, tOr, tAndV, tOrV, tIf, tIsN, tNotN, tC, tUn, rU, rI, rI0]
    refine ⟨_, rfl, _, rfl, h, CH, dx, _, _, rfl, hh, T.clH, T.nTree, lk_here, t, _, rfl, .inl (SqL.of ht), _, _, rfl, rfl, _, _, rfl, fun c => q1 ?_, fun c => q2 ?_⟩
    · have := of_decide_eq_true c
      rw [List.length_map, hl] at this
      omega
    · have := of_decide_eq_false c
      rw [List.length_map, hl] at this
      omega
theorem ok_need_leaf (T : Txt K mg CN CR CH CK) (F : MFun K CH "Holder" "need_leaf" s_Holder_need_leaf ["self", "number"]) (G_need : GOk P w K mg base (L2.CX P w) 3 "need" ["is_so", "number"] (spNeed CR)) : MOk P w K mg base (L2.CX P w) 4 CH "need_leaf" ["self", "number"] (spNeedLeaf CN CH CR) := by
  obtain ⟨f, fd, hm, hb, F⟩ := F
  refine ⟨f, fd, hm, hb, F.okX sc_Holder_need_leaf (fun vs H Q E h => ?_) (fun cdv A outer s H vs Q E hr h => ⟨_, (pss_one (ps_expr (pe_callG G_need (hr.mono (by decide)) rfl (passes_call (takes_of rfl rfl rfl rfl) (fun _ _ _ _ h => h)) (pa_cons (pe_cmp (pc_eqI (pe_fld (pe_ix ix_list (pe_fld (pv 0) rfl) (pv 1) (fun _ _ => rfl)) rfl) (pe_cI T.LEAF)) (by rfl)) (pa_cons (pe_cI T.NOLEAF) pa_nil))))), ?_⟩)⟩
  · obtain ⟨h, i, l, n, rfl, _⟩ := h
    rfl
  · obtain ⟨h, i, l, n, rfl, ⟨dx, t, hh, as, ht, hl, hN⟩, hn, q1, q2⟩ := h
    obtain ⟨a, ha⟩ := get_of_lt (l := as) (by rw [hl]; exact lt_of_get hn)
    obtain ⟨dn, c, h1, h2⟩ := hN i a n ha hn
    dsimp only [tSeq, tIfS, tNext, tB, tTest, tEqI, tNeI, tLt, tLe, tGt, tGe, tCmp, t2I, tAsg, tDrop, tRet, gName, tCons, tNil, tBM, tCB, tOp, tCallG, tCallGS, tMethG, tMakeG, tSl, tPart, tNoPart, tLst, tTup, tNot, tNotV, tAnd, tOr, tAndV, tOrV, tIf, tIsN, tNotN, tC, tUn, rU, rI, rI0]
    refine ⟨_, rfl, h, CH, dx, _, _, rfl, hh, T.clH, T.nTree, lk_here, _, rfl, t, _, _, _, rfl, rfl, SqL.of ht, atI_nat (by rw [List.getElem?_map, ha]; rfl), a, CN, dn, _, _, rfl, h1, T.clN, T.nKind, nF_kind n c, _, _, rfl, rfl, _, _, rfl, fun c => q1 ?_, fun c => q2 ?_⟩
    · have := of_decide_eq_true c
      omega
    · have := of_decide_eq_false c
      omega
theorem ok_need_leaf_of (T : Txt K mg CN CR CH CK) (F : MFun K CH "Holder" "need_leaf_of" s_Holder_need_leaf_of ["self", "number", "leaf"]) (G_need : GOk P w K mg base (L2.CX P w) 3 "need" ["is_so", "number"] (spNeed CR)) (G_leaves_of : GOk P w K mg base CX0 2 "leaves_of" ["tree", "number"] (spRow CN lv)) :
    MOk P w K mg base (L2.CX P w) 4 CH "need_leaf_of" ["self", "number", "leaf"] (spNeedLeafOf CN CH CR) := by
  obtain ⟨f, fd, hm, hb, F⟩ := F
  refine ⟨f, fd, hm, hb, F.okX sc_Holder_need_leaf_of (fun vs H Q E h => ?_) (fun cdv A outer s H vs Q E hr h => ⟨_, (pss_one (ps_expr (pe_callG G_need (hr.mono (by decide)) rfl (passes_call (takes_of rfl rfl rfl rfl) (fun _ _ _ _ h => h)) (pa_cons (pe_cmpR op_in_seq (pv 2) (pe_callG G_leaves_of (hr.mono (by decide)) rfl pass0 (pa_cons (pe_fld (pv 0) rfl) (pa_cons (pv 1) pa_nil))) (by rfl)) (pa_cons (pe_cI T.NOLEAF) pa_nil))))), ?_⟩)⟩
  · obtain ⟨h, i, j, l, rfl, _⟩ := h
    rfl
  · obtain ⟨h, i, j, l, rfl, ⟨dx, t, hh, TA⟩, W, hi, q1, q2⟩ := h
    dsimp only [tSeq, tIfS, tNext, tB, tTest, tEqI, tNeI, tLt, tLe, tGt, tGe, tCmp, t2I, tAsg, tDrop, tRet, gName, tCons, tNil, tBM, tCB, tOp, tCallG, tCallGS, tMethG, tMakeG, tSl, tPart, tNoPart, tLst, tTup, tNot, tNotV, tAnd, tOr, tAndV, tOrV, tIf, tIsN, tNotN, tC, tUn, rU, rI, rI0]
    refine ⟨_, rfl, _, rfl, h, CH, dx, _, _, rfl, hh, T.clH, T.nTree, lk_here, _, rfl, t, i, l, rfl, TA, W, hi, fun H1 p s1 g1 => ?_⟩
    refine ⟨p, _, rfl, .inl (SqL.of g1), rfl, vN_flat _, _, _, rfl, fun c => ?_, fun c => ?_⟩
    · rw [if_neg Bool.false_ne_true, inV_int] at c
      exact q1 (of_decide_eq_true c) H1 s1
    · rw [if_neg Bool.false_ne_true, inV_int] at c
      exact (q2 (of_decide_eq_false c)).late s1
theorem ok_put (T : Txt K mg CN CR CH CK) (F : MFun K CH "Holder" "put" s_Holder_put ["self", "node"]) (G_need : GOk P w K mg base (L2.CX P w) 3 "need" ["is_so", "number"] (spNeed CR)) : MOk P w K mg base (L2.CX P w) 4 CH "put" ["self", "node"] (spPut CN CH CR) := by
  obtain ⟨f, fd, hm, hb, F⟩ := F
  refine ⟨f, fd, hm, hb, F.okX sc_Holder_put (fun vs H Q E h => ?_) (fun cdv A outer s H vs Q E hr h => ⟨_, (pss_cons (ps_expr (pe_callG G_need (hr.mono (by decide)) rfl (passes_call (takes_of rfl rfl rfl rfl) (fun _ _ _ _ h => h)) (pa_cons (pe_cmp (pc_lt (pe_callB call_len_seq (by rfl) T.len PySem.boot_len (pa_cons (pe_fld (pv 0) rfl) pa_nil)) (pe_cI T.MOSTN)) (by rfl)) (pa_cons (pe_cI T.TOOMANY) pa_nil)))) (pss_cons (ps_fld (pv 0) (pe_op op_cat (pe_fld (pv 0) rfl) (pe_lst (pa_cons (pv 1) pa_nil))) rfl) (pss_one (ps_ret (pe_lst (pa_cons (pe_op op_sub (pe_callB call_len_seq (by rfl) T.len PySem.boot_len (pa_cons (pe_fld (pv 0) rfl) pa_nil)) pe_int) pa_nil)))))), ?_⟩)⟩
  · obtain ⟨h, a, l, n, rfl, _⟩ := h
    rfl
  · obtain ⟨h, a, l, n, rfl, ⟨dx, t, hh, as, ht, hl, hN⟩, h20, N, q1, q2⟩ := h
    dsimp only [tSeq, tIfS, tNext, tB, tTest, tEqI, tNeI, tLt, tLe, tGt, tGe, tCmp, t2I, tAsg, tDrop, tRet, gName, tCons, tNil, tBM, tCB, tOp, tCallG, tCallGS, tMethG, tMakeG, tSl, tPart, tNoPart, tLst, tTup, tNot, tNotV, tAnd, tOr, tAndV, tOrV, tIf, tIsN, tNotN, tC, tUn, rU, rI, rI0]
    refine ⟨_, rfl, h, CH, dx, _, _, rfl, hh, T.clH, T.nTree, lk_here, t, _, rfl, .inl (SqL.of ht), _, _, rfl, rfl, _, _, rfl, fun c => ?_, fun c => q2 ?_⟩
    · have h19 : l.length < 20 := by
        have := of_decide_eq_true c
        rw [List.length_map, hl] at this
        omega
      dsimp only [tSeq, tIfS, tNext, tB, tTest, tEqI, tNeI, tLt, tLe, tGt, tGe, tCmp, t2I, tAsg, tDrop, tRet, gName, tCons, tNil, tBM, tCB, tOp, tCallG, tCallGS, tMethG, tMakeG, tSl, tPart, tNoPart, tLst, tTup, tNot, tNotV, tAnd, tOr, tAndV, tOrV, tIf, tIsN, tNotN, tC, tUn, rU, rI, rI0]
      refine ⟨_, rfl, h, CH, dx, _, _, rfl, hh, T.clH, T.nTree, lk_here, _, rfl, small (by show 1 ≤ 100000; decide), fun p1 n1 => ?_⟩
      generalize e_H1 : upd H p1 _ = H1; have s1 : Same H H1 := e_H1 ▸ same_new n1; have g1 := e_H1 ▸ (upd_same : upd H p1 _ p1 = some _)
      refine ⟨t, p1, _, _, rfl, rfl, s1 _ _ ht, g1, small (by rw [List.length_map]; show _ + 1 ≤ _; omega), fun p2 n2 => ?_⟩
      generalize e_H2 : upd H1 p2 _ = H2; have s2 : Same H1 H2 := e_H2 ▸ same_new n2; have g2 := e_H2 ▸ (upd_same : upd H1 p2 _ p2 = some _)
      have s12 := s1.trans s2
      have np2 : p2 ≠ h := fun z => by
        rw [z, s1 _ _ hh] at n2
        cases n2
      refine ⟨_, rfl, h, CH, dx, _, rfl, s12 _ _ hh, T.clH, T.nTree, (by show 1 < 1000; decide), ?_⟩
      have eput : putF ("tree" : Str) (V.ref p2) [(("tree" : Str), V.ref t)] = [(("tree" : Str), V.ref p2)] := put_here
      rw [eput]
      generalize e3 : upd H2 h (.ins CH dx [("tree", .ref p2)]) = H3
      have g3 : H3 h = some (.ins CH dx [("tree", .ref p2)]) := by rw [← e3]; exact upd_same
      have k3 : But h H2 H3 := fun b o e ne => by rw [← e3, upd_ne ne]; exact e
      refine ⟨_, rfl, h, CH, dx, _, _, rfl, g3, T.clH, T.nTree, lk_here, p2, _, rfl, .inl (SqL.of (k3 _ _ g2 np2)), _, _, rfl, rfl, small (by show 1 ≤ 100000; decide), fun p4 n4 => ?_⟩
      generalize e_H4 : upd H3 p4 _ = H4; have s4 : Same H3 H4 := e_H4 ▸ same_new n4; have g4 := e_H4 ▸ (upd_same : upd H3 p4 _ p4 = some _)
      have bt : But h H H4 := fun b o e ne => s4 _ _ (k3 _ _ (s12 _ _ e) ne)
      have nodeNe : ∀ {b : Addr} {m : Node}, NodeAt CN H b m → NodeAt CN H4 b m := fun {b m} ⟨d, c, u1, u2⟩ => by
        refine ⟨d, c, bt _ _ u1 (fun z => ?_), bt _ _ u2 (fun z => ?_)⟩
        · rw [z, hh] at u1
          have := Option.some.inj u1
          injection this with e1 e2 e3
          have q := congrArg (List.lookup ("tree" : Str)) e3
          rw [show List.lookup ("tree" : Str) [(("tree" : Str), V.ref t)] = some (V.ref t) from lk_here, nF_no m c (by decide +kernel) (by decide +kernel) (by decide +kernel) (by decide +kernel)] at q
          cases q
        · rw [z, hh] at u2
          cases u2
      refine q1 h19 H4 p4 ⟨dx, p2, s4 _ _ g3, as ++ [a], ?_, ?_, ?_⟩ bt ?_
      · rw [s4 _ _ (k3 _ _ g2 np2), List.map_append]
        rfl
      · rw [List.length_append, List.length_append, hl]
        rfl
      · intro i b m hb' hm'
        by_cases ci : i < as.length
        · rw [List.getElem?_append_left ci] at hb'
          rw [List.getElem?_append_left (by rw [← hl]; exact ci)] at hm'
          exact nodeNe (hN i b m hb' hm')
        · have hi := lt_of_get hb'
          rw [List.length_append] at hi
          have ei : i = as.length := by
            simp at hi
            omega
          rw [ei, List.getElem?_append_right (Nat.le_refl _)] at hb'
          rw [ei, hl, List.getElem?_append_right (Nat.le_refl _)] at hm'
          simp at hb' hm'
          subst hb' hm'
          exact nodeNe N
      · rw [g4, List.length_append, List.length_map, hl]
        have e : ((l.length + [V.ref a].length : Nat) : Int) - 1 = ((l.length : Nat) : Int) := by
          show ((l.length + 1 : Nat) : Int) - 1 = _
          omega
        show some (HO.lst [V.int (((l.length + [V.ref a].length : Nat) : Int) - 1)]) = _
        rw [e]
        rfl
    · have := of_decide_eq_false c
      rw [List.length_map, hl] at this
      omega
end
end Dis
end
section
set_option linter.all false
set_option maxRecDepth 100000
set_option maxHeartbeats 4000000
namespace Dis
open PySem PySem.Spec PyProof.Rows L2
open Kp365 (Node)
theorem NodeAt.but {CN CH h dx : Addr} {v : V} {H H' : Hp} {a : Addr} {n : Node} (N : NodeAt CN H a n) (hh : H h = some (.ins CH dx [("tree", v)])) (b : But h H H') : NodeAt CN H' a n := by
  obtain ⟨d, c, u1, u2⟩ := N
  refine ⟨d, c, b _ _ u1 (fun z => ?_), b _ _ u2 (fun z => ?_)⟩
  · rw [z, hh] at u1
    have := Option.some.inj u1
    injection this with e1 e2 e3
    have q := congrArg (List.lookup ("tree" : Str)) e3
    rw [show List.lookup ("tree" : Str) [(("tree" : Str), v)] = some v from lk_here, nF_no n c (by decide +kernel) (by decide +kernel) (by decide +kernel) (by decide +kernel)] at q
    cases q
  · rw [z, hh] at u2
    cases u2
theorem lst_ne {CH h dx : Addr} {v : V} {H : Hp} {t : Addr} {xs : List V} (ht : H t = some (.lst xs)) (hh : H h = some (.ins CH dx [("tree", v)])) : t ≠ h := fun z => by
  rw [z, hh] at ht
  cases ht
theorem TreeAt.but {CN CH h dx : Addr} {v : V} {H H' : Hp} {t : Addr} {l : List Node} (N : TreeAt CN H t l) (hh : H h = some (.ins CH dx [("tree", v)])) (b : But h H H') : TreeAt CN H' t l := by
  obtain ⟨as, h1, h2, h3⟩ := N
  exact ⟨as, b _ _ h1 (lst_ne h1 hh), h2, fun i a n ha hn => (h3 i a n ha hn).but hh b⟩
/-- the tree's store -/
theorem stored {CN CH h dx : Addr} {v : V} {H : Hp} {t : Addr} {l : List Node} (hh : H h = some (.ins CH dx [("tree", v)])) (TA : TreeAt CN H t l) :
    (upd H h (.ins CH dx (putF "tree" (.ref t) [("tree", v)]))) h = some (.ins CH dx [("tree", .ref t)]) ∧ TreeAt CN (upd H h (.ins CH dx (putF "tree" (.ref t) [("tree", v)]))) t l ∧ But h H (upd H h (.ins CH dx (putF "tree" (.ref t) [("tree", v)]))) := by
  have b : But h H (upd H h (.ins CH dx (putF "tree" (.ref t) [("tree", v)]))) := fun c o e ne => by
    rw [upd_ne ne]
    exact e
  refine ⟨?_, TA.but hh b, b⟩
  rw [upd_same]
  have e : putF ("tree" : Str) (V.ref t) [(("tree" : Str), v)] = [(("tree" : Str), V.ref t)] := put_here
  rw [e]
section
variable {P : Program} {w : World} {K : PySem.W.Frag} {mg : Str → Option Value} {base : Heap} {CN CR CH CK : Addr}
theorem ok_leaf (T : Txt K mg CN CR CH CK) (F : MFun K CH "Holder" "leaf" s_Holder_leaf ["self", "so", "misread"]) (G_need : GOk P w K mg base (L2.CX P w) 3 "need" ["is_so", "number"] (spNeed CR)) (G_new_leaf : GOk P w K mg base CX0 3 "new_leaf" ["is_so", "misread"] (spNewLeaf CN))
    (M_put : MOk P w K mg base (L2.CX P w) 4 CH "put" ["self", "node"] (spPut CN CH CR)) : MOk P w K mg base (L2.CX P w) 5 CH "leaf" ["self", "so", "misread"] (spQ2 CN CH CR .leaf) := by
  obtain ⟨f, fd, hm, hb, F⟩ := F
  refine ⟨f, fd, hm, hb, F.okX sc_Holder_leaf (fun vs H Q E h => ?_) (fun cdv A outer s H vs Q E hr h => ⟨_, (pss_cons (ps_expr (pe_callG G_need (hr.mono (by decide)) rfl (passes_call (takes_of rfl rfl rfl rfl) (fun _ _ _ _ h => h)) (pa_cons (pe_and (pe_cmp (pc_le (pv 1) pe_int) (by rfl)) (pe_one (pe_cmp (pc_le (pv 2) (pe_cI T.WHOLE)) (by rfl)))) (pa_cons (pe_cI T.NOTRIGHT) pa_nil)))) (pss_one (ps_ret (pe_methG M_put T.clH (hr.mono (by decide)) (passes_call (takes_of rfl rfl rfl rfl) (fun _ _ _ _ h => h)) (pv 0) (pa_cons (pe_callG G_new_leaf (hr.mono (by decide)) rfl pass0 (pa_cons (pe_cmp (pc_eqI (pv 1) pe_int) (by rfl)) (pa_cons (pv 2) pa_nil))) pa_nil))))), ?_⟩)⟩
  · obtain ⟨h, i, j, l, rfl, _⟩ := h
    rfl
  · obtain ⟨h, so, m, l, rfl, HA, W, TD⟩ := h
    obtain ⟨dx, t, hh, TA⟩ := id HA
    dsimp only [tSeq, tIfS, tNext, tB, tTest, tEqI, tNeI, tLt, tLe, tGt, tGe, tCmp, t2I, tAsg, tDrop, tRet, gName, tCons, tNil, tBM, tCB, tOp, tCallG, tCallGS, tMethG, tMakeG, tSl, tPart, tNoPart, tLst, tTup, tNot, tNotV, tAnd, tOr, tAndV, tOrV, tIf, tIsN, tNotN, tC, tUn, rU, rI, rI0]
    have bad : ¬ (so ≤ 1 ∧ m ≤ 100) → Ref CR H (-22) E := fun c => TD.no (-22) (st_leaf_bad c)
    refine ⟨_, rfl, _, _, rfl, rfl, _, rfl, ?_⟩
    refine ite2 (fun c1 => ?_) (fun c1 => ?_)
    · have h1 : so ≤ 1 := by have := of_decide_eq_true c1; omega
      refine ⟨_, rfl, _, _, rfl, rfl, _, _, rfl, fun c => ?_, fun c => bad fun z => ?_⟩
      · have h2 : m ≤ 100 := by have := of_decide_eq_true c; omega
        dsimp only [tSeq, tIfS, tNext, tB, tTest, tEqI, tNeI, tLt, tLe, tGt, tGe, tCmp, t2I, tAsg, tDrop, tRet, gName, tCons, tNil, tBM, tCB, tOp, tCallG, tCallGS, tMethG, tMakeG, tSl, tPart, tNoPart, tLst, tTup, tNot, tNotV, tAnd, tOr, tAndV, tOrV, tIf, tIsN, tNotN, tC, tUn, rU, rI, rI0]
        refine ⟨_, rfl, h, dx, _, rfl, hh, tree_no (by decide +kernel), _, rfl, _, _, rfl, rfl, _, rfl, decide (((so : Nat) : Int) = 1), m, rfl, fun H1 p s1 n1 N1 => ?_⟩
        have eb : decide (((so : Nat) : Int) = 1) = (so == 1) := by
          show _ = decide (so = 1)
          exact decide_eq_decide.mpr (by omega)
        rw [eb] at N1
        refine ⟨h, p, l, _, rfl, HA.same s1, W.len, N1, fun h20 H2 p2 A2 b2 g2 => ?_, fun h20 => (TD.no (-28) (st_leaf_full ⟨h1, h2⟩ h20)).late s1⟩
        refine TD.ok H2 p2 _ _ (st_leaf ⟨h1, h2⟩ h20) (W.snoc h20 (.inl (leafN_ok h2)) (fun k hk => by cases hk)) A2 ((same_but s1 h).trans b2) g2 (Nat.zero_le _)
      · have := of_decide_eq_false c
        omega
    · have h1 : ¬ so ≤ 1 := fun z => c1 (decide_eq_true (by omega))
      exact ⟨_, _, rfl, (fun c => by cases c), fun _ => bad fun z => h1 z.1⟩
theorem ok_pop (T : Txt K mg CN CR CH CK) (F : MFun K CH "Holder" "pop" s_Holder_pop ["self"]) (G_need : GOk P w K mg base (L2.CX P w) 3 "need" ["is_so", "number"] (spNeed CR)) : MOk P w K mg base (L2.CX P w) 4 CH "pop" ["self"] (spQ0 CN CH CR .pop) := by
  obtain ⟨f, fd, hm, hb, F⟩ := F
  refine ⟨f, fd, hm, hb, F.okX sc_Holder_pop (fun vs H Q E h => ?_) (fun cdv A outer s H vs Q E hr h => ⟨_, (pss_cons (ps_expr (pe_callG G_need (hr.mono (by decide)) rfl (passes_call (takes_of rfl rfl rfl rfl) (fun _ _ _ _ h => h)) (pa_cons (pe_cmpR (op_neNil hr.units0) (pe_fld (pv 0) rfl) (pe_lst pa_nil) (nomark _)) (pa_cons (pe_cI T.EMPTY) pa_nil)))) (pss_cons (ps_fld (pv 0) (pe_slice sl_list (pe_fld (pv 0) rfl) po_none (po_some (pe_un un_neg pe_int))) rfl) (pss_one (ps_ret (pe_lst (pa_cons (pe_callB call_len_seq (by rfl) T.len PySem.boot_len (pa_cons (pe_fld (pv 0) rfl) pa_nil)) pa_nil)))))), ?_⟩)⟩
  · obtain ⟨h, l, rfl, _⟩ := h
    rfl
  · obtain ⟨h, l, rfl, HA, W, TD⟩ := h
    obtain ⟨dx, t, hh, TA⟩ := id HA
    obtain ⟨as, ht, hl, hN⟩ := id TA
    dsimp only [tSeq, tIfS, tNext, tB, tTest, tEqI, tNeI, tLt, tLe, tGt, tGe, tCmp, t2I, tAsg, tDrop, tRet, gName, tCons, tNil, tBM, tCB, tOp, tCallG, tCallGS, tMethG, tMakeG, tSl, tPart, tNoPart, tLst, tTup, tNot, tNotV, tAnd, tOr, tAndV, tOrV, tIf, tIsN, tNotN, tC, tUn, rU, rI, rI0]
    refine ⟨_, rfl, h, CH, dx, _, _, rfl, hh, T.clH, T.nTree, lk_here, small (Nat.zero_le _), fun p1 n1 => ?_⟩
    generalize e_H1 : upd H p1 _ = H1; have s1 : Same H H1 := e_H1 ▸ same_new n1; have g1 := e_H1 ▸ (upd_same : upd H p1 _ p1 = some _)
    refine ⟨t, p1, _, rfl, rfl, SqL.of (s1 _ _ ht), SqL.of g1, _, _, rfl, fun c => ?_, fun c => ?_⟩
    · have hne : l ≠ [] := fun z => by
        rw [z] at hl
        have : as = [] := List.length_eq_zero_iff.mp hl
        rw [this] at c
        cases c
      dsimp only [tSeq, tIfS, tNext, tB, tTest, tEqI, tNeI, tLt, tLe, tGt, tGe, tCmp, t2I, tAsg, tDrop, tRet, gName, tCons, tNil, tBM, tCB, tOp, tCallG, tCallGS, tMethG, tMakeG, tSl, tPart, tNoPart, tLst, tTup, tNot, tNotV, tAnd, tOr, tAndV, tOrV, tIf, tIsN, tNotN, tC, tUn, rU, rI, rI0]
      refine ⟨_, rfl, h, CH, dx, _, _, rfl, s1 _ _ hh, T.clH, T.nTree, lk_here, _, rfl, _, rfl, t, _, rfl, SqL.of (s1 _ _ ht), fun p2 n2 => ?_⟩
      generalize e_H2 : upd H1 p2 _ = H2; have s2 : Same H1 H2 := e_H2 ▸ same_new n2; have g2 := e_H2 ▸ (upd_same : upd H1 p2 _ p2 = some _)
      have s12 := s1.trans s2
      have T2 : TreeAt CN H2 p2 l.dropLast := by
        refine ⟨as.dropLast, ?_, by rw [List.length_dropLast, List.length_dropLast, hl], fun i a n ha hn => ?_⟩
        · rw [g2]
          show some (HO.lst (cutV (as.map V.ref) none (some (-1)))) = _
          rw [cut_last, List.map_dropLast]
        · rw [List.getElem?_dropLast] at ha hn
          split at ha
          · rw [if_pos (by omega)] at hn
            exact (hN i a n ha hn).same s12
          · cases ha
      obtain ⟨g3, T3, b3⟩ := stored (s12 _ _ hh) T2
      refine ⟨_, rfl, h, CH, dx, _, rfl, s12 _ _ hh, T.clH, T.nTree, (by show 1 < 1000; decide), ?_⟩
      generalize (upd H2 h (.ins CH dx (putF "tree" (.ref p2) [("tree", V.ref t)]))) = H3 at g3 T3 b3
      obtain ⟨as3, ht3, hl3, hN3⟩ := id T3
      refine ⟨_, rfl, h, CH, dx, _, _, rfl, g3, T.clH, T.nTree, lk_here, p2, _, rfl, .inl (SqL.of ht3), small (by show 1 ≤ 100000; decide), fun p4 n4 => ?_⟩
      generalize e_H4 : upd H3 p4 _ = H4; have s4 : Same H3 H4 := e_H4 ▸ same_new n4; have g4 := e_H4 ▸ (upd_same : upd H3 p4 _ p4 = some _)
      refine TD.ok H4 p4 _ _ (st_pop hne) W.dropLast ⟨dx, p2, s4 _ _ g3, T3.same s4⟩ (fun b o e ne => s4 _ _ (b3 _ _ (s12 _ _ e) ne)) ?_ (Nat.zero_le _)
      rw [g4, List.length_map, hl3]
      rfl
    · have he : l = [] := by
        refine Classical.byContradiction fun z => ?_
        have : as ≠ [] := fun y => by
          rw [y] at hl
          exact z (List.length_eq_zero_iff.mp hl.symm)
        cases as with
        | nil => exact this rfl
        | cons x y => cases c
      subst he
      exact (TD.no (-6) st_pop_no).late s1
end
end Dis
end
section
set_option linter.all false
set_option maxRecDepth 100000
set_option maxHeartbeats 4000000
namespace Dis
open PySem PySem.Spec PyProof.Rows L2
open Kp365 (Node)
abbrev s_Holder_node_is : Stmt := inClass (top 40) 9
theorem sc_Holder_node_is : FnScope ["self", "number", "node"] ["self", "number"] (defScope s_Holder_node_is) := ⟨rfl, rfl, rfl, by decide +kernel, rfl, by decide +kernel, by decide +kernel⟩
abbrev s_Holder_flip : Stmt := inClass (top 40) 10
theorem sc_Holder_flip : FnScope ["self", "number"] ["self", "number"] (defScope s_Holder_flip) := ⟨rfl, rfl, rfl, by decide +kernel, rfl, by decide +kernel, by decide +kernel⟩
abbrev s_Holder_wrong : Stmt := inClass (top 40) 11
theorem sc_Holder_wrong : FnScope ["self", "number", "misread", "before"] ["self", "number", "misread"] (defScope s_Holder_wrong) := ⟨rfl, rfl, rfl, by decide +kernel, rfl, by decide +kernel, by decide +kernel⟩
theorem nodup_cast (row : List Nat) : (row.map fun k => ((k : Nat) : Int)).Nodup ↔ row.Nodup := by
  constructor
  · intro h
    exact List.Pairwise.imp (fun {a b} z e => z (by rw [e])) (List.pairwise_map.mp h)
  · intro h
    exact List.pairwise_map.mpr (List.Pairwise.imp (fun {a b} z e => z (by omega)) h)
section
variable {P : Program} {w : World} {K : PySem.W.Frag} {mg : Str → Option Value} {base : Heap} {CN CR CH CK : Addr}
theorem ok_are_free (T : Txt K mg CN CR CH CK) (F : MFun K CH "Holder" "are_free" s_Holder_are_free ["self", "row"]) (G_joined : GOk P w K mg base CX0 1 "joined" ["rows"] (spJoined K)) :
    MOk P w K mg base CX0 2 CH "are_free" ["self", "row"] (spFree CN CH) := by
  obtain ⟨f, fd, hm, hb, F⟩ := F
  refine ⟨f, fd, hm, hb, F.ok sc_Holder_are_free (fun vs H Q E h => ?_) (fun cdv A outer s H vs Q E hr h => ⟨_, (pss_cons (ps_set (i := 2) sc_Holder_are_free.nd rfl (Or.inr rfl) (pe_callG G_joined (hr.mono (by decide)) rfl pass0 (pa_cons (pe_lc (own := [("node", 3)]) (g := gName 3) (tt := tYes) rfl sc_Holder_are_free.nd (te := (tFld K (tVar 3) "children")) (pi_list (pe_fld (pv 0) rfl)) (blkOk_by (own := [("node", 3)]) (N := ["self", "row", "taken", "node", "number"]) (sc := defScope s_Holder_are_free) (by decide +kernel)) (fun _ _ _ _ _ => (pg_name (i := 3) sc_Holder_are_free.nd rfl (Or.inl rfl))) (fun _ _ _ _ _ => pts_nil) (fun _ _ _ _ _ => (pe_fld (pv 3) rfl))) pa_nil))) (pss_cons (ps_if (PW.pt (pw_or (pt_not (pt_chain op_le op_le pe_int (pe_callB call_len_seq (by rfl) T.len PySem.boot_len (pa_cons (pv 1) pa_nil)) (pe_cI T.MOSTC))) (pw_or1 (pt_cmp (pc_neI (pe_lenSetA rfl T.len rfl T.set (pv 1)) (pe_callB call_len_seq (by rfl) T.len PySem.boot_len (pa_cons (pv 1) pa_nil))) (by rfl))))) (pss_one (ps_ret pe_bl)) pss_nil) (pss_one (ps_ret (pe_callB (cr_all rfl) (by rfl) T.all (by decide +kernel) (pa_cons (pe_lc (own := [("number", 4)]) (g := gName 4) (tt := tYes) rfl sc_Holder_are_free.nd (te := (tAndV (tLt (tVar 4) (tCB (rLenS K) (tCons (tFld K (tVar 0) "tree") tNil))) (tOp (rIn K true) (tVar 4) (tVar 2)))) (pi_list (pv 1)) (blkOk_by (own := [("number", 4)]) (N := ["self", "row", "taken", "node", "number"]) (sc := defScope s_Holder_are_free) (by decide +kernel)) (fun _ _ _ _ _ => (pg_name (i := 4) sc_Holder_are_free.nd rfl (Or.inl rfl))) (fun _ _ _ _ _ => pts_nil) (fun _ _ _ _ _ => (pe_and (pe_cmp (pc_lt (pv 4) (pe_callB call_len_seq (by rfl) T.len PySem.boot_len (pa_cons (pe_fld (pv 0) rfl) pa_nil))) (by rfl)) (pe_one (pe_cmpR op_notIn_seq (pv 4) (pv 2) (by rfl)))))) pa_nil)))))), ?_⟩)⟩
  · obtain ⟨h, r, l, row, rfl, _⟩ := h
    rfl
  · obtain ⟨h, r, l, row, rfl, HA, W, hrow, h6, q⟩ := h
    obtain ⟨dx, t, hh, TA⟩ := id HA
    obtain ⟨as, ht, hl, hN⟩ := id TA
    unfold areFree at q
    try dsimp only [tSeq, tIfS, tNext, tB, tTest, tEqI, tNeI, tLt, tLe, tGt, tGe, tCmp, t2I, tAsg, tDrop, tRet, gName, tCons, tNil, tBM, tCB, tOp, tCallG, tCallGS, tMethG, tMakeG, tSl, tPart, tNoPart, tLst, tTup, tNot, tNotV, tAnd, tOr, tAndV, tOrV, tIf, tIsN, tNotN, tC, tUn, rU, rI, rI0]
    refine ⟨_, rfl, h, CH, dx, _, _, rfl, hh, T.clH, T.nTree, lk_here, t, rfl, ⟨_, SqL.of ht⟩, fun D hD => ?_⟩
    refine lc_list (K := K) (a := t) (xs := as.map V.ref) (fun j H' => ∃ cs : List Addr, Same H H' ∧ H' D = some (.lst (cs.map V.ref)) ∧ RowsAt H cs ((l.take j).map (·.kids))) ⟨[], same_new hD, upd_same, RowsAt.nil _⟩ (fun j H' _ ⟨_, e, _⟩ => SqL.of (e _ _ ht)) ?_ ?_
    · rintro j x H' hx ⟨cs, s5, hd, R⟩
      obtain ⟨a, ha, rfl⟩ := of_refs hx
      obtain ⟨n, hn⟩ := get_of_lt (l := l) (by rw [← hl]; exact lt_of_get ha)
      obtain ⟨dn, c, u1, u2⟩ := hN j a n ha hn
      refine ⟨rfl, _, rfl, a, CN, dn, _, _, rfl, s5 _ _ u1, T.clN, T.nKids, nF_kids n c, _, hd, ?_, cs ++ [c], same_late s5 hD, ?_, ?_⟩
      · rw [List.length_map, R.1, List.length_map, List.length_take]
        exact smallT (by have := W.len; omega)
      · rw [upd_same, List.map_append]
        rfl
      · rw [take_snoc hn, List.map_append]
        exact R.snoc (Same.refl _) u2
    · rintro H1 ⟨cs, s1, hd, R⟩
      rw [List.length_map, hl, List.take_length] at R
      refine ⟨D, cs, _, rfl, hd, R.same s1, by have := kids_80 W; omega, fun H2 p2 s2 n2 g2 => ?_⟩
      have s12 := s1.trans s2
      have hrow2 := s12 _ _ hrow
      have lenrow : (((vN row).length : Nat) : Int) = ((row.length : Nat) : Int) := by rw [vN_len]
      have q' := q
      refine ⟨_, rfl, r, _, rfl, .inl (SqL.of hrow2), _, _, rfl, rfl, _, rfl, ?_⟩
      rw [lenrow]
      -- the way that says False
      have no : (decide (1 ≤ row.length) && decide (row.length ≤ 4) && decide row.Nodup) = false → Q (.bl false) H2 := fun c => by
        have := q H2 s12
        rw [c, Bool.false_and] at this
        exact this
      refine ite2 (fun c1 => ?_) (fun c1 => ?_)
      · have h1 : 1 ≤ row.length := by have := of_decide_eq_true c1; omega
        refine ⟨_, _, rfl, rfl, _, rfl, ?_⟩
        refine ite2 (fun c2 => ?_) (fun c2 => ?_)
        · have h2 : ¬ row.length ≤ 4 := fun z => by
            rw [decide_eq_true (show ((row.length : Nat) : Int) ≤ 4 by omega)] at c2
            cases c2
          exact iteT (no (by rw [decide_eq_false h2, Bool.and_false, Bool.false_and]))
        · have h2 : row.length ≤ 4 := by
            refine Classical.byContradiction fun z => c2 ?_
            rw [decide_eq_false (show ¬ ((row.length : Nat) : Int) ≤ 4 by omega)]
            rfl
          refine ⟨_, rfl, r, row.map fun k => ((k : Nat) : Int), rfl, SqL.of (by rw [← vN_int]; exact hrow2), by rw [List.length_map]; omega, fun m hm => ?_⟩
          rw [List.length_map, nodup_cast] at hm
          refine ⟨_, rfl, r, _, rfl, .inl (SqL.of hrow2), _, _, rfl, rfl, _, rfl, ?_⟩
          rw [lenrow]
          refine ite2 (fun c3 => ?_) (fun c3 => ?_)
          · have h3 : ¬ row.Nodup := fun z => by
              have := hm.mpr z
              rw [this, decide_eq_true rfl] at c3
              cases c3
            exact no (by rw [decide_eq_false h3, Bool.and_false])
          · have h3 : row.Nodup := by
              refine hm.mp (Classical.byContradiction fun z => c3 ?_)
              rw [decide_eq_false (show ¬ ((m : Nat) : Int) = ((row.length : Nat) : Int) by omega)]
              rfl
            refine ⟨_, rfl, r, rfl, ⟨_, SqL.of hrow2⟩, fun D2 hD2 => ?_⟩
            refine lc_list (K := K) (a := r) (xs := vN row) (fun j H' => Same H2 H' ∧ H' D2 = some (.lst (bls ((row.take j).map fun k => decide (k < l.length) && !isKid l k)))) ⟨same_new hD2, upd_same⟩ (fun j H' _ e => SqL.of (e.1 _ _ hrow2)) ?_ ?_
            · rintro j x H' hx ⟨s5, hd2⟩
              obtain ⟨k, hk', rfl⟩ := of_vN hx
              have tk : (row.take (j + 1)).map (fun k => decide (k < l.length) && !isKid l k) = (row.take j).map (fun k => decide (k < l.length) && !isKid l k) ++ [decide (k < l.length) && !isKid l k] := by
                rw [take_snoc hk', List.map_append]
                rfl
              have sz : (bls ((row.take j).map fun k => decide (k < l.length) && !isKid l k)).length < sizeLine := by
                unfold bls
                rw [List.length_map, List.length_map, List.length_take]
                exact smallT (by omega)
              have sH := s12.trans s5
              have fin : ∀ b : Bool, (decide (k < l.length) && !isKid l k) = b → ∃ acc, H' D2 = some (HO.lst acc) ∧ acc.length < sizeLine ∧ Same H2 (upd H' D2 (.lst (acc ++ [V.bl b]))) ∧ (upd H' D2 (.lst (acc ++ [V.bl b]))) D2 = some (.lst (bls ((row.take (j + 1)).map fun k => decide (k < l.length) && !isKid l k))) := fun b e => by
                refine ⟨_, hd2, sz, same_late s5 hD2, ?_⟩
                rw [upd_same, tk, e]
                unfold bls
                rw [List.map_append]
                rfl
              refine ⟨rfl, _, rfl, _, rfl, h, CH, dx, _, _, rfl, sH _ _ hh, T.clH, T.nTree, lk_here, t, _, rfl, .inl (SqL.of (sH _ _ ht)), _, _, rfl, rfl, _, rfl, ?_⟩
              refine ite2 (fun c4 => ?_) (fun c4 => ?_)
              · have h4 : k < l.length := by
                  have := of_decide_eq_true c4
                  rw [List.length_map, hl] at this
                  omega
                refine ⟨_, rfl, _, rfl, p2, _, rfl, .inl (SqL.of (s5 _ _ g2)), rfl, vN_flat _, ?_⟩
                rw [if_pos rfl, inV_int]
                refine fin _ ?_
                rw [decide_eq_true h4, Bool.true_and, isKid_flat]
              · have h4 : ¬ k < l.length := fun z => c4 (decide_eq_true (by rw [List.length_map, hl]; omega))
                refine fin _ ?_
                rw [decide_eq_false h4, Bool.false_and]
            · rintro H3 ⟨s5, hd2⟩
              rw [vN_len, List.take_length] at hd2
              refine ⟨D2, _, rfl, SqL.of hd2, ?_⟩
              have := q H3 (s12.trans s5)
              rw [decide_eq_true h1, decide_eq_true h2, decide_eq_true h3, Bool.true_and, Bool.true_and, Bool.true_and] at this
              rw [List.all_map]
              exact this
      · have h1 : ¬ 1 ≤ row.length := fun z => c1 (decide_eq_true (by omega))
        exact ⟨_, rfl, iteT (iteT (no (by rw [decide_eq_false h1, Bool.false_and, Bool.false_and])))⟩
theorem ok_above (T : Txt K mg CN CR CH CK) (F : MFun K CH "Holder" "above" s_Holder_above ["self", "kind", "row"]) (G_need : GOk P w K mg base (L2.CX P w) 3 "need" ["is_so", "number"] (spNeed CR)) (G_Node : COk P w K mg base CX0 1 "Node" CN ["self", "kind", "is_so", "misread", "children"] (spNodeInit CN))
    (M_are_free : MOk P w K mg base CX0 2 CH "are_free" ["self", "row"] (spFree CN CH)) (M_put : MOk P w K mg base (L2.CX P w) 4 CH "put" ["self", "node"] (spPut CN CH CR)) :
    MOk P w K mg base (L2.CX P w) 5 CH "above" ["self", "kind", "row"] (spAbove CN CH CR) := by
  obtain ⟨f, fd, hm, hb, F⟩ := F
  refine ⟨f, fd, hm, hb, F.okX sc_Holder_above (fun vs H Q E h => ?_) (fun cdv A outer s H vs Q E hr h => ⟨_, (pss_cons (ps_expr (pe_callG G_need (hr.mono (by decide)) rfl (passes_call (takes_of rfl rfl rfl rfl) (fun _ _ _ _ h => h)) (pa_cons (pe_methG M_are_free T.clH (hr.mono (by decide)) pass0 (pv 0) (pa_cons (pv 2) pa_nil)) (pa_cons (pe_cI T.NOTRIGHT) pa_nil)))) (pss_one (ps_ret (pe_methG M_put T.clH (hr.mono (by decide)) (passes_call (takes_of rfl rfl rfl rfl) (fun _ _ _ _ h => h)) (pv 0) (pa_cons (pe_makeG G_Node (hr.mono (by decide)) rfl pass0 (pa_cons (pv 1) (pa_cons pe_bl (pa_cons pe_int (pa_cons (pv 2) pa_nil))))) pa_nil))))), ?_⟩)⟩
  · obtain ⟨h, r, kind, l, row, rfl, _⟩ := h
    rfl
  · obtain ⟨h, r, kind, l, row, rfl, HA, W, hrow, h6, hk, TD⟩ := h
    obtain ⟨dx, t, hh, TA⟩ := id HA
    try dsimp only [tSeq, tIfS, tNext, tB, tTest, tEqI, tNeI, tLt, tLe, tGt, tGe, tCmp, t2I, tAsg, tDrop, tRet, gName, tCons, tNil, tBM, tCB, tOp, tCallG, tCallGS, tMethG, tMakeG, tSl, tPart, tNoPart, tLst, tTup, tNot, tNotV, tAnd, tOr, tAndV, tOrV, tIf, tIsN, tNotN, tC, tUn, rU, rI, rI0]
    refine ⟨_, rfl, h, dx, _, rfl, hh, tree_no (by decide +kernel), _, rfl, h, r, l, row, rfl, HA, W, hrow, h6, fun H1 s1 => ?_⟩
    refine ⟨_, _, rfl, fun c => ?_, fun c => (TD.no (-22) (st_up_bad c)).late s1⟩
    try dsimp only [tSeq, tIfS, tNext, tB, tTest, tEqI, tNeI, tLt, tLe, tGt, tGe, tCmp, t2I, tAsg, tDrop, tRet, gName, tCons, tNil, tBM, tCB, tOp, tCallG, tCallGS, tMethG, tMakeG, tSl, tPart, tNoPart, tLst, tTup, tNot, tNotV, tAnd, tOr, tAndV, tOrV, tIf, tIsN, tNotN, tC, tUn, rU, rI, rI0]
    refine ⟨_, rfl, h, dx, _, rfl, s1 _ _ hh, tree_no (by decide +kernel), _, rfl, _, rfl, fun x dn nx nd ne => ⟨x, dn, _, false, 0, r, rfl, upd_same, rfl, ?_⟩⟩
    have s2 : Same H1 (upd (upd (upd H1 dn (.own x)) x (.ins CN dn [])) x (.ins CN dn [("kind", .int (kind : Nat)), ("is_so", .bl false), ("misread", .int 0), ("children", .ref r)])) := by
      rw [upd_upd]
      exact same_late (same_new nd) nx
    have gx : (upd (upd (upd H1 dn (.own x)) x (.ins CN dn [])) x (.ins CN dn [("kind", .int (kind : Nat)), ("is_so", .bl false), ("misread", .int 0), ("children", .ref r)])) x = some (.ins CN dn (nF ⟨kind, 0, 0, row⟩ r)) := by
      rw [upd_same]
      rfl
    generalize (upd (upd (upd H1 dn (.own x)) x (.ins CN dn [])) x (.ins CN dn [("kind", .int (kind : Nat)), ("is_so", .bl false), ("misread", .int 0), ("children", .ref r)])) = H2 at s2 gx
    have s12 := s1.trans s2
    refine ⟨h, x, l, ⟨kind, 0, 0, row⟩, rfl, HA.same s12, W.len, ⟨dn, r, gx, s12 _ _ hrow⟩, fun h20 H3 p3 A3 b3 g3 => ?_, fun h20 => (TD.no (-28) (st_up_full c h20)).late s12⟩
    exact TD.ok H3 p3 _ _ (st_up hk c h20) (W.above hk h20 c) A3 ((same_but s12 h).trans b3) g3 (Nat.zero_le _)
theorem ok_node_is (T : Txt K mg CN CR CH CK) (F : MFun K CH "Holder" "node_is" s_Holder_node_is ["self", "number"]) (M_need_node : MOk P w K mg base (L2.CX P w) 4 CH "need_node" ["self", "number"] (spNeedNode CN CH CR)) : MOk P w K mg base (L2.CX P w) 5 CH "node_is" ["self", "number"] (spQ1 CN CH CR .nodeIs) := by
  obtain ⟨f, fd, hm, hb, F⟩ := F
  refine ⟨f, fd, hm, hb, F.okX sc_Holder_node_is (fun vs H Q E h => ?_) (fun cdv A outer s H vs Q E hr h => ⟨_, (pss_cons (ps_expr (pe_methG M_need_node T.clH (hr.mono (by decide)) (passes_call (takes_of rfl rfl rfl rfl) (fun _ _ _ _ h => h)) (pv 0) (pa_cons (pv 1) pa_nil))) (pss_cons (ps_set (i := 2) sc_Holder_node_is.nd rfl (Or.inl rfl) (pe_ix ix_list (pe_fld (pv 0) rfl) (pv 1) (fun _ _ => rfl))) (pss_cons (ps_if (pt_cmp (pc_eqI (pe_fld (pv 2) rfl) (pe_cI T.LEAF)) (by rfl)) (pss_one (ps_ret (pe_lst (pa_cons (pe_cI T.LEAF) (pa_cons (pe_callTy call_int1 (by rfl) T.int (by decide +kernel) (pa_cons (pe_fld (pv 2) rfl) pa_nil)) (pa_cons (pe_fld (pv 2) rfl) pa_nil)))))) pss_nil) (pss_one (ps_ret (pe_op op_cat (pe_lst (pa_cons (pe_fld (pv 2) rfl) pa_nil)) (pe_fld (pv 2) rfl))))))), ?_⟩)⟩
  · obtain ⟨h, i, l, rfl, _⟩ := h
    rfl
  · obtain ⟨h, i, l, rfl, HA, W, TD⟩ := h
    obtain ⟨dx, t, hh, as, ht, hl, hN⟩ := id HA
    try dsimp only [tSeq, tIfS, tNext, tB, tTest, tEqI, tNeI, tLt, tLe, tGt, tGe, tCmp, t2I, tAsg, tDrop, tRet, gName, tCons, tNil, tBM, tCB, tOp, tCallG, tCallGS, tMethG, tMakeG, tSl, tPart, tNoPart, tLst, tTup, tNot, tNotV, tAnd, tOr, tAndV, tOrV, tIf, tIsN, tNotN, tC, tUn, rU, rI, rI0]
    refine ⟨_, rfl, h, dx, _, rfl, hh, tree_no (by decide +kernel), _, rfl, h, i, l, rfl, HA, fun hi => ?_, fun hi => TD.no (-2) (of_no hi)⟩
    obtain ⟨n, hn⟩ := get_of_lt hi
    obtain ⟨a, ha⟩ := get_of_lt (l := as) (by rw [hl]; exact hi)
    have N := hN i a n ha hn
    obtain ⟨dn, c, h1, h2⟩ := id N
    try dsimp only [tSeq, tIfS, tNext, tB, tTest, tEqI, tNeI, tLt, tLe, tGt, tGe, tCmp, t2I, tAsg, tDrop, tRet, gName, tCons, tNil, tBM, tCB, tOp, tCallG, tCallGS, tMethG, tMakeG, tSl, tPart, tNoPart, tLst, tTup, tNot, tNotV, tAnd, tOr, tAndV, tOrV, tIf, tIsN, tNotN, tC, tUn, rU, rI, rI0]
    refine ⟨_, rfl, h, CH, dx, _, _, rfl, hh, T.clH, T.nTree, lk_here, _, rfl, t, _, _, _, rfl, rfl, SqL.of ht, atI_nat (by rw [List.getElem?_map, ha]; rfl), ?_⟩
    refine rdKindV T rfl N ⟨_, _, rfl, rfl, _, rfl, ?_⟩
    refine ite2 (fun cc => ?_) (fun cc => ?_)
    · have c0 : n.kind = 0 := by have := of_decide_eq_true cc; omega
      have L : LeafOk n := (W.node i n hn).resolve_right fun U => by rcases U.1 with e | e <;> omega
      refine rdSoV T rfl N (.inr ⟨_, rfl, ?_⟩)
      refine rdMisV T rfl N ⟨small (by show 3 ≤ 100000; decide), fun p np => ?_⟩
      generalize e_H1 : upd H p _ = H1; have s1 : Same H H1 := e_H1 ▸ same_new np; have g1 := e_H1 ▸ (upd_same : upd H p _ p = some _)
      refine TD.ask W HA s1 (st_is_leaf hn L) ?_ (by show 2 ≤ 21; decide)
      rw [g1]
      rfl
    · have c0 : ¬ n.kind = 0 := fun z => cc (decide_eq_true (by omega))
      refine rdKindV T rfl N ⟨small (by show 1 ≤ 100000; decide), fun p np => ?_⟩
      generalize e_H1 : upd H p _ = H1; have s1 : Same H H1 := e_H1 ▸ same_new np; have g1 := e_H1 ▸ (upd_same : upd H p _ p = some _)
      refine rdKidsV T rfl (N.same s1) fun c1 hc1 => ⟨p, c1, _, _, rfl, rfl, g1, hc1, small (by rw [vN_len]; show 1 + _ ≤ _; have := W.kids4 hn; omega), fun p2 n2 => ?_⟩
      generalize e_H2 : upd H1 p2 _ = H2; have s2 : Same H1 H2 := e_H2 ▸ same_new n2; have g2 := e_H2 ▸ (upd_same : upd H1 p2 _ p2 = some _)
      refine TD.ask W HA (s1.trans s2) (st_is_up hn c0) ?_ (by have := W.kids4 hn; rw [List.length_map]; omega)
      rw [g2, vN_int]
      rfl
theorem ok_flip (T : Txt K mg CN CR CH CK) (F : MFun K CH "Holder" "flip" s_Holder_flip ["self", "number"]) (M_need_node : MOk P w K mg base (L2.CX P w) 4 CH "need_node" ["self", "number"] (spNeedNode CN CH CR))
    (M_need_leaf : MOk P w K mg base (L2.CX P w) 4 CH "need_leaf" ["self", "number"] (spNeedLeaf CN CH CR)) (G_flipped : GOk P w K mg base CX0 4 "flipped" ["tree", "number"] (spFlipped CN)) :
    MOk P w K mg base (L2.CX P w) 5 CH "flip" ["self", "number"] (spQ1 CN CH CR .flip) := by
  obtain ⟨f, fd, hm, hb, F⟩ := F
  refine ⟨f, fd, hm, hb, F.okX sc_Holder_flip (fun vs H Q E h => ?_) (fun cdv A outer s H vs Q E hr h => ⟨_, (pss_cons (ps_expr (pe_methG M_need_node T.clH (hr.mono (by decide)) (passes_call (takes_of rfl rfl rfl rfl) (fun _ _ _ _ h => h)) (pv 0) (pa_cons (pv 1) pa_nil))) (pss_cons (ps_expr (pe_methG M_need_leaf T.clH (hr.mono (by decide)) (passes_call (takes_of rfl rfl rfl rfl) (fun _ _ _ _ h => h)) (pv 0) (pa_cons (pv 1) pa_nil))) (pss_cons (ps_fld (pv 0) (pe_callG G_flipped (hr.mono (by decide)) rfl pass0 (pa_cons (pe_fld (pv 0) rfl) (pa_cons (pv 1) pa_nil))) rfl) (pss_one (ps_ret (pe_lst (pa_cons (pe_callTy call_int1 (by rfl) T.int (by decide +kernel) (pa_cons (pe_fld (pe_ix ix_list (pe_fld (pv 0) rfl) (pv 1) (fun _ _ => rfl)) rfl) pa_nil)) pa_nil))))))), ?_⟩)⟩
  · obtain ⟨h, i, l, rfl, _⟩ := h
    rfl
  · obtain ⟨h, i, l, rfl, HA, W, TD⟩ := h
    obtain ⟨dx, t, hh, TA⟩ := id HA
    try dsimp only [tSeq, tIfS, tNext, tB, tTest, tEqI, tNeI, tLt, tLe, tGt, tGe, tCmp, t2I, tAsg, tDrop, tRet, gName, tCons, tNil, tBM, tCB, tOp, tCallG, tCallGS, tMethG, tMakeG, tSl, tPart, tNoPart, tLst, tTup, tNot, tNotV, tAnd, tOr, tAndV, tOrV, tIf, tIsN, tNotN, tC, tUn, rU, rI, rI0]
    refine ⟨_, rfl, h, dx, _, rfl, hh, tree_no (by decide +kernel), _, rfl, h, i, l, rfl, HA, fun hi => ?_, fun hi => TD.no (-2) (st_flip_no hi)⟩
    obtain ⟨n, hn⟩ := get_of_lt hi
    refine ⟨_, rfl, h, dx, _, rfl, hh, tree_no (by decide +kernel), _, rfl, h, i, l, n, rfl, HA, hn, fun c0 => ?_, fun c0 => TD.no (-33) (st_flip_up hn c0)⟩
    have L : LeafOk n := (W.node i n hn).resolve_right fun U => by rcases U.1 with e | e <;> omega
    refine ⟨_, rfl, h, CH, dx, _, _, rfl, hh, T.clH, T.nTree, lk_here, _, rfl, t, i, l, rfl, TA, W.len, hi, fun H1 p1 s1 n1 T1 => ?_⟩
    obtain ⟨g3, T3, b3⟩ := stored (s1 _ _ hh) T1
    refine ⟨_, rfl, h, CH, dx, _, rfl, s1 _ _ hh, T.clH, T.nTree, (by show 1 < 1000; decide), ?_⟩
    generalize (upd H1 h (.ins CH dx (putF "tree" (.ref p1) [("tree", V.ref t)]))) = H3 at g3 T3 b3
    obtain ⟨as3, ht3, hl3, hN3⟩ := id T3
    obtain ⟨a, ha⟩ := get_of_lt (l := as3) (by rw [hl3, flipd_len hi]; exact hi)
    have hn3 : (flipd l i)[i]? = some (leafN (!(n.so == 1)) n.wrong) := by
      unfold flipd
      rw [putAt_get hi, if_pos rfl, nd_eq hn]
    obtain ⟨dn, c, h1, h2⟩ := hN3 i a _ ha hn3
    refine ⟨_, rfl, h, CH, dx, _, _, rfl, g3, T.clH, T.nTree, lk_here, _, rfl, p1, _, _, _, rfl, rfl, SqL.of ht3, atI_nat (by rw [List.getElem?_map, ha]; rfl), a, CN, dn, _, _, rfl, h1, T.clN, T.nSo, nF_so _ c, .inr ⟨_, rfl, small (by show 1 ≤ 100000; decide), fun p4 n4 => ?_⟩⟩
    generalize e_H4 : upd H3 p4 _ = H4; have s4 : Same H3 H4 := e_H4 ▸ same_new n4; have g4 := e_H4 ▸ (upd_same : upd H3 p4 _ p4 = some _)
    refine TD.ok H4 p4 _ _ (st_flip hn L) (W.flip hn L) ⟨dx, p1, s4 _ _ g3, T3.same s4⟩ (fun b o e ne => s4 _ _ (b3 _ _ (s1 _ _ e) ne)) ?_ (Nat.zero_le _)
    rw [g4]
    cases n.so == 1 <;> rfl
theorem ok_wrong (T : Txt K mg CN CR CH CK) (F : MFun K CH "Holder" "wrong" s_Holder_wrong ["self", "number", "misread"]) (G_need : GOk P w K mg base (L2.CX P w) 3 "need" ["is_so", "number"] (spNeed CR)) (M_need_node : MOk P w K mg base (L2.CX P w) 4 CH "need_node" ["self", "number"] (spNeedNode CN CH CR))
    (M_need_leaf : MOk P w K mg base (L2.CX P w) 4 CH "need_leaf" ["self", "number"] (spNeedLeaf CN CH CR)) (G_misread_so : GOk P w K mg base CX0 4 "misread_so" ["tree", "number", "misread"] (spMisr CN)) :
    MOk P w K mg base (L2.CX P w) 5 CH "wrong" ["self", "number", "misread"] (spQ2 CN CH CR .wrong) := by
  obtain ⟨f, fd, hm, hb, F⟩ := F
  refine ⟨f, fd, hm, hb, F.okX sc_Holder_wrong (fun vs H Q E h => ?_) (fun cdv A outer s H vs Q E hr h => ⟨_, (pss_cons (ps_expr (pe_methG M_need_node T.clH (hr.mono (by decide)) (passes_call (takes_of rfl rfl rfl rfl) (fun _ _ _ _ h => h)) (pv 0) (pa_cons (pv 1) pa_nil))) (pss_cons (ps_expr (pe_callG G_need (hr.mono (by decide)) rfl (passes_call (takes_of rfl rfl rfl rfl) (fun _ _ _ _ h => h)) (pa_cons (pe_cmp (pc_le (pv 2) (pe_cI T.WHOLE)) (by rfl)) (pa_cons (pe_cI T.NOTRIGHT) pa_nil)))) (pss_cons (ps_expr (pe_methG M_need_leaf T.clH (hr.mono (by decide)) (passes_call (takes_of rfl rfl rfl rfl) (fun _ _ _ _ h => h)) (pv 0) (pa_cons (pv 1) pa_nil))) (pss_cons (ps_set (i := 3) sc_Holder_wrong.nd rfl (Or.inl rfl) (pe_fld (pe_ix ix_list (pe_fld (pv 0) rfl) (pv 1) (fun _ _ => rfl)) rfl)) (pss_cons (ps_fld (pv 0) (pe_callG G_misread_so (hr.mono (by decide)) rfl pass0 (pa_cons (pe_fld (pv 0) rfl) (pa_cons (pv 1) (pa_cons (pv 2) pa_nil)))) rfl) (pss_one (ps_ret (pe_lst (pa_cons (pv 3) pa_nil))))))))), ?_⟩)⟩
  · obtain ⟨h, i, j, l, rfl, _⟩ := h
    rfl
  · obtain ⟨h, i, m, l, rfl, HA, W, TD⟩ := h
    obtain ⟨dx, t, hh, TA⟩ := id HA
    obtain ⟨as, ht, hl, hN⟩ := id TA
    try dsimp only [tSeq, tIfS, tNext, tB, tTest, tEqI, tNeI, tLt, tLe, tGt, tGe, tCmp, t2I, tAsg, tDrop, tRet, gName, tCons, tNil, tBM, tCB, tOp, tCallG, tCallGS, tMethG, tMakeG, tSl, tPart, tNoPart, tLst, tTup, tNot, tNotV, tAnd, tOr, tAndV, tOrV, tIf, tIsN, tNotN, tC, tUn, rU, rI, rI0]
    refine ⟨_, rfl, h, dx, _, rfl, hh, tree_no (by decide +kernel), _, rfl, h, i, l, rfl, HA, fun hi => ?_, fun hi => TD.no (-2) (st_wrong_no hi)⟩
    refine ⟨_, rfl, _, _, rfl, rfl, _, _, rfl, fun cw => ?_, fun cw => TD.no (-22) (st_wrong_bad hi ?_)⟩
    · have hw : m ≤ 100 := by have := of_decide_eq_true cw; omega
      obtain ⟨n, hn⟩ := get_of_lt hi
      obtain ⟨a, ha⟩ := get_of_lt (l := as) (by rw [hl]; exact hi)
      obtain ⟨dn, c, h1, h2⟩ := hN i a n ha hn
      try dsimp only [tSeq, tIfS, tNext, tB, tTest, tEqI, tNeI, tLt, tLe, tGt, tGe, tCmp, t2I, tAsg, tDrop, tRet, gName, tCons, tNil, tBM, tCB, tOp, tCallG, tCallGS, tMethG, tMakeG, tSl, tPart, tNoPart, tLst, tTup, tNot, tNotV, tAnd, tOr, tAndV, tOrV, tIf, tIsN, tNotN, tC, tUn, rU, rI, rI0]
      refine ⟨_, rfl, h, dx, _, rfl, hh, tree_no (by decide +kernel), _, rfl, h, i, l, n, rfl, HA, hn, fun c0 => ?_, fun c0 => TD.no (-33) (st_wrong_up hn hw c0)⟩
      have L : LeafOk n := (W.node i n hn).resolve_right fun U => by rcases U.1 with e | e <;> omega
      refine ⟨_, rfl, h, CH, dx, _, _, rfl, hh, T.clH, T.nTree, lk_here, _, rfl, t, _, _, _, rfl, rfl, SqL.of ht, atI_nat (by rw [List.getElem?_map, ha]; rfl), a, CN, dn, _, _, rfl, h1, T.clN, T.nMis, nF_mis _ c, ?_⟩
      refine ⟨_, rfl, h, CH, dx, _, _, rfl, hh, T.clH, T.nTree, lk_here, _, rfl, _, rfl, t, i, m, l, rfl, TA, W.len, hi, fun H1 p1 s1 n1 T1 => ?_⟩
      obtain ⟨g3, T3, b3⟩ := stored (s1 _ _ hh) T1
      refine ⟨_, rfl, h, CH, dx, _, rfl, s1 _ _ hh, T.clH, T.nTree, (by show 1 < 1000; decide), ?_⟩
      generalize (upd H1 h (.ins CH dx (putF "tree" (.ref p1) [("tree", V.ref t)]))) = H3 at g3 T3 b3
      refine ⟨_, rfl, small (by show 1 ≤ 100000; decide), fun p4 n4 => ?_⟩
      generalize e_H4 : upd H3 p4 _ = H4; have s4 : Same H3 H4 := e_H4 ▸ same_new n4; have g4 := e_H4 ▸ (upd_same : upd H3 p4 _ p4 = some _)
      refine TD.ok H4 p4 _ _ (st_wrong hn hw L) (W.mis hn hw) ⟨dx, p1, s4 _ _ g3, T3.same s4⟩ (fun b o e ne => s4 _ _ (b3 _ _ (s1 _ _ e) ne)) ?_ (Nat.zero_le _)
      rw [g4]
      rfl
    · have := of_decide_eq_false cw
      omega
end
end Dis
end
section
set_option linter.all false
set_option maxRecDepth 100000
set_option maxHeartbeats 4000000
namespace Dis
open PySem PySem.Spec PyProof.Rows L2
open Kp365 (Node)
abbrev s_Holder_is_true : Stmt := inClass (top 40) 12
theorem sc_Holder_is_true : FnScope ["self", "number"] ["self", "number"] (defScope s_Holder_is_true) := ⟨rfl, rfl, rfl, by decide +kernel, rfl, by decide +kernel, by decide +kernel⟩
abbrev s_Holder_held : Stmt := inClass (top 40) 13
theorem sc_Holder_held : FnScope ["self", "number"] ["self", "number"] (defScope s_Holder_held) := ⟨rfl, rfl, rfl, by decide +kernel, rfl, by decide +kernel, by decide +kernel⟩
abbrev s_Holder_right : Stmt := inClass (top 40) 14
theorem sc_Holder_right : FnScope ["self", "number"] ["self", "number"] (defScope s_Holder_right) := ⟨rfl, rfl, rfl, by decide +kernel, rfl, by decide +kernel, by decide +kernel⟩
abbrev s_Holder_pick : Stmt := inClass (top 40) 15
theorem sc_Holder_pick : FnScope ["self", "number"] ["self", "number"] (defScope s_Holder_pick) := ⟨rfl, rfl, rfl, by decide +kernel, rfl, by decide +kernel, by decide +kernel⟩
abbrev s_Holder_way : Stmt := inClass (top 40) 16
theorem sc_Holder_way : FnScope ["self", "number"] ["self", "number"] (defScope s_Holder_way) := ⟨rfl, rfl, rfl, by decide +kernel, rfl, by decide +kernel, by decide +kernel⟩
abbrev s_Holder_by_picks : Stmt := inClass (top 40) 17
theorem sc_Holder_by_picks : FnScope ["self", "number", "picks", "kind"] ["self", "number", "picks", "kind"] (defScope s_Holder_by_picks) := ⟨rfl, rfl, rfl, by decide +kernel, rfl, by decide +kernel, by decide +kernel⟩
abbrev s_Holder_by_say : Stmt := inClass (top 40) 18
theorem sc_Holder_by_say : FnScope ["self", "number", "picks"] ["self", "number", "picks"] (defScope s_Holder_by_say) := ⟨rfl, rfl, rfl, by decide +kernel, rfl, by decide +kernel, by decide +kernel⟩
abbrev s_Holder_by_doubt : Stmt := inClass (top 40) 19
theorem sc_Holder_by_doubt : FnScope ["self", "number", "picks"] ["self", "number", "picks"] (defScope s_Holder_by_doubt) := ⟨rfl, rfl, rfl, by decide +kernel, rfl, by decide +kernel, by decide +kernel⟩
abbrev s_Holder_proof : Stmt := inClass (top 40) 20
theorem sc_Holder_proof : FnScope ["self", "number"] ["self", "number"] (defScope s_Holder_proof) := ⟨rfl, rfl, rfl, by decide +kernel, rfl, by decide +kernel, by decide +kernel⟩
abbrev s_Holder_leaves : Stmt := inClass (top 40) 21
theorem sc_Holder_leaves : FnScope ["self", "number"] ["self", "number"] (defScope s_Holder_leaves) := ⟨rfl, rfl, rfl, by decide +kernel, rfl, by decide +kernel, by decide +kernel⟩
abbrev s_Holder_matter : Stmt := inClass (top 40) 22
theorem sc_Holder_matter : FnScope ["self", "number"] ["self", "number"] (defScope s_Holder_matter) := ⟨rfl, rfl, rfl, by decide +kernel, rfl, by decide +kernel, by decide +kernel⟩
abbrev s_Holder_if_wrong : Stmt := inClass (top 40) 23
theorem sc_Holder_if_wrong : FnScope ["self", "number", "leaf", "misread"] ["self", "number", "leaf", "misread"] (defScope s_Holder_if_wrong) := ⟨rfl, rfl, rfl, by decide +kernel, rfl, by decide +kernel, by decide +kernel⟩
abbrev s_Holder_if_flip : Stmt := inClass (top 40) 24
theorem sc_Holder_if_flip : FnScope ["self", "number", "leaf"] ["self", "number", "leaf"] (defScope s_Holder_if_flip) := ⟨rfl, rfl, rfl, by decide +kernel, rfl, by decide +kernel, by decide +kernel⟩
abbrev s_Holder_best : Stmt := inClass (top 40) 25
theorem sc_Holder_best : FnScope ["self", "number", "found", "leaf", "wins"] ["self", "number"] (defScope s_Holder_best) := ⟨rfl, rfl, rfl, by decide +kernel, rfl, by decide +kernel, by decide +kernel⟩
abbrev s_Holder_depth : Stmt := inClass (top 40) 26
theorem sc_Holder_depth : FnScope ["self", "number"] ["self", "number"] (defScope s_Holder_depth) := ⟨rfl, rfl, rfl, by decide +kernel, rfl, by decide +kernel, by decide +kernel⟩
section
variable {P : Program} {w : World} {K : PySem.W.Frag} {mg : Str → Option Value} {base : Heap} {CN CR CH CK : Addr}
theorem ok_is_true_m (T : Txt K mg CN CR CH CK) (F : MFun K CH "Holder" "is_true" s_Holder_is_true ["self", "number"]) (M_need_node : MOk P w K mg base (L2.CX P w) 4 CH "need_node" ["self", "number"] (spNeedNode CN CH CR)) (G_truths : GOk P w K mg base CX0 1 "truths" ["tree"] (spTruths CN)) :
    MOk P w K mg base (L2.CX P w) 5 CH "is_true" ["self", "number"] (spQ1 CN CH CR .true_) := by
  obtain ⟨f, fd, hm, hb, F⟩ := F
  refine ⟨f, fd, hm, hb, F.okX sc_Holder_is_true (fun vs H Q E h => ?_) (fun cdv A outer s H vs Q E hr h => ⟨_, (pss_cons (ps_expr (pe_methG M_need_node T.clH (hr.mono (by decide)) (passes_call (takes_of rfl rfl rfl rfl) (fun _ _ _ _ h => h)) (pv 0) (pa_cons (pv 1) pa_nil))) (pss_one (ps_ret (pe_lst (pa_cons (pe_callTy call_int1 (by rfl) T.int (by decide +kernel) (pa_cons (pe_ix ix_list (pe_callG G_truths (hr.mono (by decide)) rfl pass0 (pa_cons (pe_fld (pv 0) rfl) pa_nil)) (pv 1) (fun _ _ => rfl)) pa_nil)) pa_nil))))), ?_⟩)⟩
  · obtain ⟨h, i, l, rfl, _⟩ := h
    rfl
  · obtain ⟨h, i, l, rfl, HA, W, TD⟩ := h
    obtain ⟨dx, t, hh, TA⟩ := id HA
    try dsimp only [tSeq, tIfS, tNext, tB, tTest, tEqI, tNeI, tLt, tLe, tGt, tGe, tCmp, t2I, tAsg, tDrop, tRet, gName, tCons, tNil, tBM, tCB, tOp, tCallG, tCallGS, tMethG, tMakeG, tSl, tPart, tNoPart, tLst, tTup, tNot, tNotV, tAnd, tOr, tAndV, tOrV, tIf, tIsN, tNotN, tC, tUn, rU, rI, rI0]
    refine ⟨_, rfl, h, dx, _, rfl, hh, tree_no (by decide +kernel), _, rfl, h, i, l, rfl, HA, fun hi => ?_, fun hi => TD.no (-2) (of_no hi)⟩
    refine ⟨_, rfl, h, CH, dx, _, _, rfl, hh, T.clH, T.nTree, lk_here, t, l, rfl, TA, W, fun H1 p1 s1 n1 g1 => ?_⟩
    refine ⟨_, rfl, p1, _, _, _, rfl, rfl, SqL.of g1, truths_at hi, .inr ⟨_, rfl, small (by show 1 ≤ 100000; decide), fun p n => ?_⟩⟩
    generalize e_H2 : upd H1 p _ = H2; have s2 : Same H1 H2 := e_H2 ▸ same_new n; have g2 := e_H2 ▸ (upd_same : upd H1 p _ p = some _)
    refine TD.ask W HA (s1.trans s2) (st_true W hi) ?_ (Nat.zero_le _)
    rw [g2]
    rfl
theorem ok_held_m (T : Txt K mg CN CR CH CK) (F : MFun K CH "Holder" "held" s_Holder_held ["self", "number"]) (M_need_node : MOk P w K mg base (L2.CX P w) 4 CH "need_node" ["self", "number"] (spNeedNode CN CH CR)) (G_fraction : GOk P w K mg base CX0 2 "fraction" ["hundredths"] spFraction) (G_held_all : GOk P w K mg base CX0 2 "held_all" ["tree"] (spHeldAll CN)) :
    MOk P w K mg base (L2.CX P w) 5 CH "held" ["self", "number"] (spQ1 CN CH CR .held) := by
  obtain ⟨f, fd, hm, hb, F⟩ := F
  refine ⟨f, fd, hm, hb, F.okX sc_Holder_held (fun vs H Q E h => ?_) (fun cdv A outer s H vs Q E hr h => ⟨_, (pss_cons (ps_expr (pe_methG M_need_node T.clH (hr.mono (by decide)) (passes_call (takes_of rfl rfl rfl rfl) (fun _ _ _ _ h => h)) (pv 0) (pa_cons (pv 1) pa_nil))) (pss_one (ps_ret (pe_op op_cat (pe_lst (pa_cons pe_int pa_nil)) (pe_callG G_fraction (hr.mono (by decide)) rfl pass0 (pa_cons (pe_ix ix_list (pe_callG G_held_all (hr.mono (by decide)) rfl pass0 (pa_cons (pe_fld (pv 0) rfl) pa_nil)) (pv 1) (fun _ _ => rfl)) pa_nil)))))), ?_⟩)⟩
  · obtain ⟨h, i, l, rfl, _⟩ := h
    rfl
  · obtain ⟨h, i, l, rfl, HA, W, TD⟩ := h
    obtain ⟨dx, t, hh, TA⟩ := id HA
    try dsimp only [tSeq, tIfS, tNext, tB, tTest, tEqI, tNeI, tLt, tLe, tGt, tGe, tCmp, t2I, tAsg, tDrop, tRet, gName, tCons, tNil, tBM, tCB, tOp, tCallG, tCallGS, tMethG, tMakeG, tSl, tPart, tNoPart, tLst, tTup, tNot, tNotV, tAnd, tOr, tAndV, tOrV, tIf, tIsN, tNotN, tC, tUn, rU, rI, rI0]
    refine ⟨_, rfl, h, dx, _, rfl, hh, tree_no (by decide +kernel), _, rfl, h, i, l, rfl, HA, fun hi => ?_, fun hi => TD.no (-2) (of_no hi)⟩
    refine ⟨small (by show 1 ≤ 100000; decide), fun pz nz => ?_⟩
    generalize e_H0 : upd H pz _ = H0; have s0 : Same H H0 := e_H0 ▸ same_new nz; have g0 := e_H0 ▸ (upd_same : upd H pz _ pz = some _)
    refine ⟨_, rfl, h, CH, dx, _, _, rfl, s0 _ _ hh, T.clH, T.nTree, lk_here, t, l, rfl, TA.same s0, W, fun H1 p1 s1 n1 g1 => ?_⟩
    refine ⟨_, rfl, p1, _, _, _, rfl, rfl, SqL.of g1, hdT_at hi, hd l i, rfl, fun H2 p2 s2 n2 g2 => ?_⟩
    refine ⟨pz, p2, _, _, rfl, rfl, s2 _ _ (s1 _ _ g0), g2, small (by show 1 + 2 ≤ 100000; decide), fun p n => ?_⟩
    generalize e_H3 : upd H2 p _ = H3; have s3 : Same H2 H3 := e_H3 ▸ same_new n; have g3 := e_H3 ▸ (upd_same : upd H2 p _ p = some _)
    refine TD.ask W HA (((s0.trans s1).trans s2).trans s3) (st_held W hi) ?_ (by show 2 ≤ 21; decide)
    rw [g3]
    rfl
theorem ok_right_m (T : Txt K mg CN CR CH CK) (F : MFun K CH "Holder" "right" s_Holder_right ["self", "number"]) (M_need_node : MOk P w K mg base (L2.CX P w) 4 CH "need_node" ["self", "number"] (spNeedNode CN CH CR)) (G_fraction : GOk P w K mg base CX0 2 "fraction" ["hundredths"] spFraction) (G_right_wins : GOk P w K mg base CX0 3 "right_wins" ["tree", "number"] (spNum CN rw_)) :
    MOk P w K mg base (L2.CX P w) 5 CH "right" ["self", "number"] (spQ1 CN CH CR .right) := by
  obtain ⟨f, fd, hm, hb, F⟩ := F
  refine ⟨f, fd, hm, hb, F.okX sc_Holder_right (fun vs H Q E h => ?_) (fun cdv A outer s H vs Q E hr h => ⟨_, (pss_cons (ps_expr (pe_methG M_need_node T.clH (hr.mono (by decide)) (passes_call (takes_of rfl rfl rfl rfl) (fun _ _ _ _ h => h)) (pv 0) (pa_cons (pv 1) pa_nil))) (pss_one (ps_ret (pe_op op_cat (pe_lst (pa_cons pe_int pa_nil)) (pe_callG G_fraction (hr.mono (by decide)) rfl pass0 (pa_cons (pe_callG G_right_wins (hr.mono (by decide)) rfl pass0 (pa_cons (pe_fld (pv 0) rfl) (pa_cons (pv 1) pa_nil))) pa_nil)))))), ?_⟩)⟩
  · obtain ⟨h, i, l, rfl, _⟩ := h
    rfl
  · obtain ⟨h, i, l, rfl, HA, W, TD⟩ := h
    obtain ⟨dx, t, hh, TA⟩ := id HA
    try dsimp only [tSeq, tIfS, tNext, tB, tTest, tEqI, tNeI, tLt, tLe, tGt, tGe, tCmp, t2I, tAsg, tDrop, tRet, gName, tCons, tNil, tBM, tCB, tOp, tCallG, tCallGS, tMethG, tMakeG, tSl, tPart, tNoPart, tLst, tTup, tNot, tNotV, tAnd, tOr, tAndV, tOrV, tIf, tIsN, tNotN, tC, tUn, rU, rI, rI0]
    refine ⟨_, rfl, h, dx, _, rfl, hh, tree_no (by decide +kernel), _, rfl, h, i, l, rfl, HA, fun hi => ?_, fun hi => TD.no (-2) (of_no hi)⟩
    refine ⟨small (by show 1 ≤ 100000; decide), fun pz nz => ?_⟩
    generalize e_H0 : upd H pz _ = H0; have s0 : Same H H0 := e_H0 ▸ same_new nz; have g0 := e_H0 ▸ (upd_same : upd H pz _ pz = some _)
    refine ⟨_, rfl, h, CH, dx, _, _, rfl, s0 _ _ hh, T.clH, T.nTree, lk_here, _, rfl, t, i, l, rfl, TA.same s0, W, hi, fun H1 s1 => ?_⟩
    refine ⟨rw_ l i, rfl, fun H2 p2 s2 n2 g2 => ?_⟩
    refine ⟨pz, p2, _, _, rfl, rfl, s2 _ _ (s1 _ _ g0), g2, small (by show 1 + 2 ≤ 100000; decide), fun p n => ?_⟩
    generalize e_H3 : upd H2 p _ = H3; have s3 : Same H2 H3 := e_H3 ▸ same_new n; have g3 := e_H3 ▸ (upd_same : upd H2 p _ p = some _)
    refine TD.ask W HA (((s0.trans s1).trans s2).trans s3) (st_right W hi) ?_ (by show 2 ≤ 21; decide)
    rw [g3]
    rfl
theorem ok_pick_m (T : Txt K mg CN CR CH CK) (F : MFun K CH "Holder" "pick" s_Holder_pick ["self", "number"]) (G_need : GOk P w K mg base (L2.CX P w) 3 "need" ["is_so", "number"] (spNeed CR)) (M_need_node : MOk P w K mg base (L2.CX P w) 4 CH "need_node" ["self", "number"] (spNeedNode CN CH CR)) (G_picked : GOk P w K mg base CX0 3 "picked" ["tree", "number"] (spPicked CN)) :
    MOk P w K mg base (L2.CX P w) 5 CH "pick" ["self", "number"] (spQ1 CN CH CR .pick) := by
  obtain ⟨f, fd, hm, hb, F⟩ := F
  refine ⟨f, fd, hm, hb, F.okX sc_Holder_pick (fun vs H Q E h => ?_) (fun cdv A outer s H vs Q E hr h => ⟨_, (pss_cons (ps_expr (pe_methG M_need_node T.clH (hr.mono (by decide)) (passes_call (takes_of rfl rfl rfl rfl) (fun _ _ _ _ h => h)) (pv 0) (pa_cons (pv 1) pa_nil))) (pss_cons (ps_expr (pe_callG G_need (hr.mono (by decide)) rfl (passes_call (takes_of rfl rfl rfl rfl) (fun _ _ _ _ h => h)) (pa_cons (pe_cmp (pc_neI (pe_fld (pe_ix ix_list (pe_fld (pv 0) rfl) (pv 1) (fun _ _ => rfl)) rfl) (pe_cI T.LEAF)) (by rfl)) (pa_cons (pe_cI T.NOLEAF) pa_nil)))) (pss_one (ps_ret (pe_lst (pa_cons (pe_callG G_picked (hr.mono (by decide)) rfl pass0 (pa_cons (pe_fld (pv 0) rfl) (pa_cons (pv 1) pa_nil))) pa_nil)))))), ?_⟩)⟩
  · obtain ⟨h, i, l, rfl, _⟩ := h
    rfl
  · obtain ⟨h, i, l, rfl, HA, W, TD⟩ := h
    obtain ⟨dx, t, hh, TA⟩ := id HA
    try dsimp only [tSeq, tIfS, tNext, tB, tTest, tEqI, tNeI, tLt, tLe, tGt, tGe, tCmp, t2I, tAsg, tDrop, tRet, gName, tCons, tNil, tBM, tCB, tOp, tCallG, tCallGS, tMethG, tMakeG, tSl, tPart, tNoPart, tLst, tTup, tNot, tNotV, tAnd, tOr, tAndV, tOrV, tIf, tIsN, tNotN, tC, tUn, rU, rI, rI0]
    refine ⟨_, rfl, h, dx, _, rfl, hh, tree_no (by decide +kernel), _, rfl, h, i, l, rfl, HA, fun hi => ?_, fun hi => TD.no (-2) (of_no hi)⟩
    obtain ⟨as, ht, hl, hN⟩ := id TA
    obtain ⟨n, hn⟩ := get_of_lt hi
    obtain ⟨a, ha⟩ := get_of_lt (l := as) (by rw [hl]; exact hi)
    obtain ⟨dn, c, h1, h2⟩ := hN i a n ha hn
    refine ⟨_, rfl, h, CH, dx, _, _, rfl, hh, T.clH, T.nTree, lk_here, _, rfl, t, _, _, _, rfl, rfl, SqL.of ht, atI_nat (by rw [List.getElem?_map, ha]; rfl), a, CN, dn, _, _, rfl, h1, T.clN, T.nKind, nF_kind n c, _, _, rfl, rfl, _, _, rfl, fun cc => ?_, fun cc => ?_⟩
    · have c0 : ¬ n.kind = 0 := fun z => by
        rw [z] at cc
        simp at cc
      refine ⟨_, rfl, h, CH, dx, _, _, rfl, hh, T.clH, T.nTree, lk_here, _, rfl, t, i, l, n, rfl, TA, W, hn, fun H1 s1 => ⟨small (by show 1 ≤ 100000; decide), fun p np => ?_⟩⟩
      generalize e_H2 : upd H1 p _ = H2; have s2 : Same H1 H2 := e_H2 ▸ same_new np; have g2 := e_H2 ▸ (upd_same : upd H1 p _ p = some _)
      refine TD.ask W HA (s1.trans s2) (st_pick W hn c0) ?_ (Nat.zero_le _)
      rw [g2]
      rfl
    · have c0 : n.kind = 0 := by
        refine Classical.byContradiction fun z => ?_
        rw [decide_eq_false (show ¬ ((n.kind : Nat) : Int) = 0 by omega)] at cc
        cases cc
      exact TD.no (-33) (st_pick_leaf hn c0)
theorem ok_way_m (T : Txt K mg CN CR CH CK) (F : MFun K CH "Holder" "way" s_Holder_way ["self", "number"]) (M_need_node : MOk P w K mg base (L2.CX P w) 4 CH "need_node" ["self", "number"] (spNeedNode CN CH CR)) (G_counted : GOk P w K mg base CX0 1 "counted" ["numbers"] spCounted) (G_way_from : GOk P w K mg base CX0 4 "way_from" ["tree", "number"] (spRow CN wayOf)) :
    MOk P w K mg base (L2.CX P w) 5 CH "way" ["self", "number"] (spQ1 CN CH CR .way) := by
  obtain ⟨f, fd, hm, hb, F⟩ := F
  refine ⟨f, fd, hm, hb, F.okX sc_Holder_way (fun vs H Q E h => ?_) (fun cdv A outer s H vs Q E hr h => ⟨_, (pss_cons (ps_expr (pe_methG M_need_node T.clH (hr.mono (by decide)) (passes_call (takes_of rfl rfl rfl rfl) (fun _ _ _ _ h => h)) (pv 0) (pa_cons (pv 1) pa_nil))) (pss_one (ps_ret (pe_callG G_counted (hr.mono (by decide)) rfl pass0 (pa_cons (pe_callG G_way_from (hr.mono (by decide)) rfl pass0 (pa_cons (pe_fld (pv 0) rfl) (pa_cons (pv 1) pa_nil))) pa_nil))))), ?_⟩)⟩
  · obtain ⟨h, i, l, rfl, _⟩ := h
    rfl
  · obtain ⟨h, i, l, rfl, HA, W, TD⟩ := h
    obtain ⟨dx, t, hh, TA⟩ := id HA
    try dsimp only [tSeq, tIfS, tNext, tB, tTest, tEqI, tNeI, tLt, tLe, tGt, tGe, tCmp, t2I, tAsg, tDrop, tRet, gName, tCons, tNil, tBM, tCB, tOp, tCallG, tCallGS, tMethG, tMakeG, tSl, tPart, tNoPart, tLst, tTup, tNot, tNotV, tAnd, tOr, tAndV, tOrV, tIf, tIsN, tNotN, tC, tUn, rU, rI, rI0]
    refine ⟨_, rfl, h, dx, _, rfl, hh, tree_no (by decide +kernel), _, rfl, h, i, l, rfl, HA, fun hi => ?_, fun hi => TD.no (-2) (of_no hi)⟩
    refine ⟨_, rfl, h, CH, dx, _, _, rfl, hh, T.clH, T.nTree, lk_here, _, rfl, t, i, l, rfl, TA, W, hi, fun H1 p1 s1 g1 => ?_⟩
    have z20 : (wayOf l i).length ≤ 21 := way_len W 21 i hi
    refine ⟨p1, _, rfl, g1, by rw [vN_len]; omega, fun H2 p2 s2 n2 g2 => ?_⟩
    refine TD.ask W HA (s1.trans s2) (st_way hi) ?_ (by show ((wayOf l i).map _).length ≤ 21; rw [List.length_map]; exact z20)
    rw [g2, vN_len, vN_int]
    rfl
theorem ok_proof_m (T : Txt K mg CN CR CH CK) (F : MFun K CH "Holder" "proof" s_Holder_proof ["self", "number"]) (M_need_node : MOk P w K mg base (L2.CX P w) 4 CH "need_node" ["self", "number"] (spNeedNode CN CH CR)) (G_counted : GOk P w K mg base CX0 1 "counted" ["numbers"] spCounted) (G_proof_of : GOk P w K mg base CX0 2 "proof_of" ["tree", "number"] (spRow CN pr)) :
    MOk P w K mg base (L2.CX P w) 5 CH "proof" ["self", "number"] (spQ1 CN CH CR .proof) := by
  obtain ⟨f, fd, hm, hb, F⟩ := F
  refine ⟨f, fd, hm, hb, F.okX sc_Holder_proof (fun vs H Q E h => ?_) (fun cdv A outer s H vs Q E hr h => ⟨_, (pss_cons (ps_expr (pe_methG M_need_node T.clH (hr.mono (by decide)) (passes_call (takes_of rfl rfl rfl rfl) (fun _ _ _ _ h => h)) (pv 0) (pa_cons (pv 1) pa_nil))) (pss_one (ps_ret (pe_callG G_counted (hr.mono (by decide)) rfl pass0 (pa_cons (pe_callG G_proof_of (hr.mono (by decide)) rfl pass0 (pa_cons (pe_fld (pv 0) rfl) (pa_cons (pv 1) pa_nil))) pa_nil))))), ?_⟩)⟩
  · obtain ⟨h, i, l, rfl, _⟩ := h
    rfl
  · obtain ⟨h, i, l, rfl, HA, W, TD⟩ := h
    obtain ⟨dx, t, hh, TA⟩ := id HA
    try dsimp only [tSeq, tIfS, tNext, tB, tTest, tEqI, tNeI, tLt, tLe, tGt, tGe, tCmp, t2I, tAsg, tDrop, tRet, gName, tCons, tNil, tBM, tCB, tOp, tCallG, tCallGS, tMethG, tMakeG, tSl, tPart, tNoPart, tLst, tTup, tNot, tNotV, tAnd, tOr, tAndV, tOrV, tIf, tIsN, tNotN, tC, tUn, rU, rI, rI0]
    refine ⟨_, rfl, h, dx, _, rfl, hh, tree_no (by decide +kernel), _, rfl, h, i, l, rfl, HA, fun hi => ?_, fun hi => TD.no (-2) (of_no hi)⟩
    refine ⟨_, rfl, h, CH, dx, _, _, rfl, hh, T.clH, T.nTree, lk_here, _, rfl, t, i, l, rfl, TA, W, hi, fun H1 p1 s1 g1 => ?_⟩
    have z20 : (pr l i).length ≤ 21 := by have := pr_20 W hi; omega
    refine ⟨p1, _, rfl, g1, by rw [vN_len]; omega, fun H2 p2 s2 n2 g2 => ?_⟩
    refine TD.ask W HA (s1.trans s2) (st_proof W hi) ?_ (by show ((pr l i).map _).length ≤ 21; rw [List.length_map]; exact z20)
    rw [g2, vN_len, vN_int]
    rfl
theorem ok_leaves_m (T : Txt K mg CN CR CH CK) (F : MFun K CH "Holder" "leaves" s_Holder_leaves ["self", "number"]) (M_need_node : MOk P w K mg base (L2.CX P w) 4 CH "need_node" ["self", "number"] (spNeedNode CN CH CR)) (G_counted : GOk P w K mg base CX0 1 "counted" ["numbers"] spCounted) (G_leaves_of : GOk P w K mg base CX0 2 "leaves_of" ["tree", "number"] (spRow CN lv)) :
    MOk P w K mg base (L2.CX P w) 5 CH "leaves" ["self", "number"] (spQ1 CN CH CR .leaves) := by
  obtain ⟨f, fd, hm, hb, F⟩ := F
  refine ⟨f, fd, hm, hb, F.okX sc_Holder_leaves (fun vs H Q E h => ?_) (fun cdv A outer s H vs Q E hr h => ⟨_, (pss_cons (ps_expr (pe_methG M_need_node T.clH (hr.mono (by decide)) (passes_call (takes_of rfl rfl rfl rfl) (fun _ _ _ _ h => h)) (pv 0) (pa_cons (pv 1) pa_nil))) (pss_one (ps_ret (pe_callG G_counted (hr.mono (by decide)) rfl pass0 (pa_cons (pe_callG G_leaves_of (hr.mono (by decide)) rfl pass0 (pa_cons (pe_fld (pv 0) rfl) (pa_cons (pv 1) pa_nil))) pa_nil))))), ?_⟩)⟩
  · obtain ⟨h, i, l, rfl, _⟩ := h
    rfl
  · obtain ⟨h, i, l, rfl, HA, W, TD⟩ := h
    obtain ⟨dx, t, hh, TA⟩ := id HA
    try dsimp only [tSeq, tIfS, tNext, tB, tTest, tEqI, tNeI, tLt, tLe, tGt, tGe, tCmp, t2I, tAsg, tDrop, tRet, gName, tCons, tNil, tBM, tCB, tOp, tCallG, tCallGS, tMethG, tMakeG, tSl, tPart, tNoPart, tLst, tTup, tNot, tNotV, tAnd, tOr, tAndV, tOrV, tIf, tIsN, tNotN, tC, tUn, rU, rI, rI0]
    refine ⟨_, rfl, h, dx, _, rfl, hh, tree_no (by decide +kernel), _, rfl, h, i, l, rfl, HA, fun hi => ?_, fun hi => TD.no (-2) (of_no hi)⟩
    refine ⟨_, rfl, h, CH, dx, _, _, rfl, hh, T.clH, T.nTree, lk_here, _, rfl, t, i, l, rfl, TA, W, hi, fun H1 p1 s1 g1 => ?_⟩
    have z20 : (lv l i).length ≤ 21 := by have := lv_20 l W i hi; omega
    refine ⟨p1, _, rfl, g1, by rw [vN_len]; omega, fun H2 p2 s2 n2 g2 => ?_⟩
    refine TD.ask W HA (s1.trans s2) (st_leaves W hi) ?_ (by show ((lv l i).map _).length ≤ 21; rw [List.length_map]; exact z20)
    rw [g2, vN_len, vN_int]
    rfl
theorem ok_matter_m (T : Txt K mg CN CR CH CK) (F : MFun K CH "Holder" "matter" s_Holder_matter ["self", "number"]) (M_need_node : MOk P w K mg base (L2.CX P w) 4 CH "need_node" ["self", "number"] (spNeedNode CN CH CR)) (G_counted : GOk P w K mg base CX0 1 "counted" ["numbers"] spCounted) (G_matters : GOk P w K mg base CX0 5 "matters" ["tree", "number"] (spRow CN mat)) :
    MOk P w K mg base (L2.CX P w) 6 CH "matter" ["self", "number"] (spQ1 CN CH CR .matter) := by
  obtain ⟨f, fd, hm, hb, F⟩ := F
  refine ⟨f, fd, hm, hb, F.okX sc_Holder_matter (fun vs H Q E h => ?_) (fun cdv A outer s H vs Q E hr h => ⟨_, (pss_cons (ps_expr (pe_methG M_need_node T.clH (hr.mono (by decide)) (passes_call (takes_of rfl rfl rfl rfl) (fun _ _ _ _ h => h)) (pv 0) (pa_cons (pv 1) pa_nil))) (pss_one (ps_ret (pe_callG G_counted (hr.mono (by decide)) rfl pass0 (pa_cons (pe_callG G_matters (hr.mono (by decide)) rfl pass0 (pa_cons (pe_fld (pv 0) rfl) (pa_cons (pv 1) pa_nil))) pa_nil))))), ?_⟩)⟩
  · obtain ⟨h, i, l, rfl, _⟩ := h
    rfl
  · obtain ⟨h, i, l, rfl, HA, W, TD⟩ := h
    obtain ⟨dx, t, hh, TA⟩ := id HA
    try dsimp only [tSeq, tIfS, tNext, tB, tTest, tEqI, tNeI, tLt, tLe, tGt, tGe, tCmp, t2I, tAsg, tDrop, tRet, gName, tCons, tNil, tBM, tCB, tOp, tCallG, tCallGS, tMethG, tMakeG, tSl, tPart, tNoPart, tLst, tTup, tNot, tNotV, tAnd, tOr, tAndV, tOrV, tIf, tIsN, tNotN, tC, tUn, rU, rI, rI0]
    refine ⟨_, rfl, h, dx, _, rfl, hh, tree_no (by decide +kernel), _, rfl, h, i, l, rfl, HA, fun hi => ?_, fun hi => TD.no (-2) (of_no hi)⟩
    refine ⟨_, rfl, h, CH, dx, _, _, rfl, hh, T.clH, T.nTree, lk_here, _, rfl, t, i, l, rfl, TA, W, hi, fun H1 p1 s1 g1 => ?_⟩
    have z20 : (mat l i).length ≤ 21 := by have := lv_20 l W i hi; have := List.length_filter_le (fun j => tr (flipd l j) i != tr l i) (lv l i); unfold mat; omega
    refine ⟨p1, _, rfl, g1, by rw [vN_len]; omega, fun H2 p2 s2 n2 g2 => ?_⟩
    refine TD.ask W HA (s1.trans s2) (st_matter W hi) ?_ (by show ((mat l i).map _).length ≤ 21; rw [List.length_map]; exact z20)
    rw [g2, vN_len, vN_int]
    rfl
theorem ok_by_picks_m (T : Txt K mg CN CR CH CK) (F : MFun K CH "Holder" "by_picks" s_Holder_by_picks ["self", "number", "picks", "kind"]) (G_need : GOk P w K mg base (L2.CX P w) 3 "need" ["is_so", "number"] (spNeed CR)) (M_need_node : MOk P w K mg base (L2.CX P w) 4 CH "need_node" ["self", "number"] (spNeedNode CN CH CR)) (G_fraction : GOk P w K mg base CX0 2 "fraction" ["hundredths"] spFraction) (G_are_picks : GOk P w K mg base CX0 2 "are_picks" ["tree", "picks", "told_kind"] (spArePicks CN)) (G_held_by : GOk P w K mg base CX0 2 "held_by" ["tree", "picks", "told_kind"] (spHeldBy CN)) :
    MOk P w K mg base (L2.CX P w) 5 CH "by_picks" ["self", "number", "picks", "kind"] (spByPicks CN CH CR) := by
  obtain ⟨f, fd, hm, hb, F⟩ := F
  refine ⟨f, fd, hm, hb, F.okX sc_Holder_by_picks (fun vs H Q E h => ?_) (fun cdv A outer s H vs Q E hr h => ⟨_, (pss_cons (ps_expr (pe_methG M_need_node T.clH (hr.mono (by decide)) (passes_call (takes_of rfl rfl rfl rfl) (fun _ _ _ _ h => h)) (pv 0) (pa_cons (pv 1) pa_nil))) (pss_cons (ps_expr (pe_callG G_need (hr.mono (by decide)) rfl (passes_call (takes_of rfl rfl rfl rfl) (fun _ _ _ _ h => h)) (pa_cons (pe_callG G_are_picks (hr.mono (by decide)) rfl pass0 (pa_cons (pe_fld (pv 0) rfl) (pa_cons (pv 2) (pa_cons (pv 3) pa_nil)))) (pa_cons (pe_cI T.NOTRIGHT) pa_nil)))) (pss_one (ps_ret (pe_op op_cat (pe_lst (pa_cons pe_int pa_nil)) (pe_callG G_fraction (hr.mono (by decide)) rfl pass0 (pa_cons (pe_ix ix_list (pe_callG G_held_by (hr.mono (by decide)) rfl pass0 (pa_cons (pe_fld (pv 0) rfl) (pa_cons (pv 2) (pa_cons (pv 3) pa_nil)))) (pv 1) (fun _ _ => rfl)) pa_nil))))))), ?_⟩)⟩
  · obtain ⟨h, r, i, kind, l, ps, rfl, _⟩ := h
    rfl
  · obtain ⟨h, r, i, kind, l, ps, rfl, HA, W, hps, hk, TD⟩ := h
    obtain ⟨dx, t, hh, TA⟩ := id HA
    try dsimp only [tSeq, tIfS, tNext, tB, tTest, tEqI, tNeI, tLt, tLe, tGt, tGe, tCmp, t2I, tAsg, tDrop, tRet, gName, tCons, tNil, tBM, tCB, tOp, tCallG, tCallGS, tMethG, tMakeG, tSl, tPart, tNoPart, tLst, tTup, tNot, tNotV, tAnd, tOr, tAndV, tOrV, tIf, tIsN, tNotN, tC, tUn, rU, rI, rI0]
    refine ⟨_, rfl, h, dx, _, rfl, hh, tree_no (by decide +kernel), _, rfl, h, i, l, rfl, HA, fun hi => ?_, fun hi => TD.no (-2) (st_by_no hk hi)⟩
    refine ⟨_, rfl, h, CH, dx, _, _, rfl, hh, T.clH, T.nTree, lk_here, _, rfl, _, rfl, t, r, l, ps, kind, rfl, TA, W, hps, fun H1 s1 => ?_⟩
    refine ⟨_, _, rfl, fun cc => ?_, fun cc => (TD.no (-22) (st_by_bad hk hi cc)).late s1⟩
    refine ⟨small (by show 1 ≤ 100000; decide), fun pz nz => ?_⟩
    generalize e_H0 : upd H1 pz _ = H0; have s0 : Same H1 H0 := e_H0 ▸ same_new nz; have g0 := e_H0 ▸ (upd_same : upd H1 pz _ pz = some _)
    have s10 := s1.trans s0
    refine ⟨_, rfl, h, CH, dx, _, _, rfl, s10 _ _ hh, T.clH, T.nTree, lk_here, _, rfl, _, rfl, t, r, l, ps, kind, rfl, TA.same s10, W, s10 _ _ hps, by rcases hk with e | e <;> omega, cc, fun H2 p2 s2 n2 g2 => ?_⟩
    have hlt : i < (hbT kind ps l).length := by
      unfold hbT
      rw [tab_len]
      exact hi
    have e : Dis.hb kind ps l i = (hbT kind ps l)[i] := by
      unfold Dis.hb
      rw [List.getD_eq_getElem?_getD, List.getElem?_eq_getElem hlt]
      rfl
    refine ⟨_, rfl, p2, _, _, _, rfl, rfl, SqL.of g2, atI_nat (vN_get (List.getElem?_eq_getElem hlt)), (hbT kind ps l)[i], rfl, fun H3 p3 s3 n3 g3 => ?_⟩
    refine ⟨pz, p3, _, _, rfl, rfl, s3 _ _ (s2 _ _ g0), g3, small (by show 1 + 2 ≤ 100000; decide), fun p n => ?_⟩
    generalize e_H4 : upd H3 p _ = H4; have s4 : Same H3 H4 := e_H4 ▸ same_new n; have g4 := e_H4 ▸ (upd_same : upd H3 p _ p = some _)
    refine TD.ask W HA (((s10.trans s2).trans s3).trans s4) (st_by W hk hi cc) ?_ (by show 2 ≤ 21; decide)
    rw [g4, e]
    rfl
theorem ok_by_say_m (T : Txt K mg CN CR CH CK) (F : MFun K CH "Holder" "by_say" s_Holder_by_say ["self", "number", "picks"]) (M_by_picks : MOk P w K mg base (L2.CX P w) 5 CH "by_picks" ["self", "number", "picks", "kind"] (spByPicks CN CH CR)) :
    MOk P w K mg base (L2.CX P w) 6 CH "by_say" ["self", "number", "picks"] (spBy CN CH CR 2) := by
  obtain ⟨f, fd, hm, hb, F⟩ := F
  refine ⟨f, fd, hm, hb, F.okX sc_Holder_by_say (fun vs H Q E h => ?_) (fun cdv A outer s H vs Q E hr h => ⟨_, (pss_one (ps_ret (pe_methG M_by_picks T.clH (hr.mono (by decide)) (passes_call (takes_of rfl rfl rfl rfl) (fun _ _ _ _ h => h)) (pv 0) (pa_cons (pv 1) (pa_cons (pv 2) (pa_cons (pe_cI T.SOME) pa_nil)))))), ?_⟩)⟩
  · obtain ⟨h, r, i, l, ps, rfl, _⟩ := h
    rfl
  · obtain ⟨h, r, i, l, ps, rfl, HA, W, hps, TD⟩ := h
    obtain ⟨dx, t, hh, TA⟩ := id HA
    try dsimp only [tSeq, tIfS, tNext, tB, tTest, tEqI, tNeI, tLt, tLe, tGt, tGe, tCmp, t2I, tAsg, tDrop, tRet, gName, tCons, tNil, tBM, tCB, tOp, tCallG, tCallGS, tMethG, tMakeG, tSl, tPart, tNoPart, tLst, tTup, tNot, tNotV, tAnd, tOr, tAndV, tOrV, tIf, tIsN, tNotN, tC, tUn, rU, rI, rI0]
    exact ⟨_, rfl, h, dx, _, rfl, hh, tree_no (by decide +kernel), _, rfl, _, rfl, h, r, i, 2, l, ps, rfl, HA, W, hps, by omega, TD⟩
theorem ok_by_doubt_m (T : Txt K mg CN CR CH CK) (F : MFun K CH "Holder" "by_doubt" s_Holder_by_doubt ["self", "number", "picks"]) (M_by_picks : MOk P w K mg base (L2.CX P w) 5 CH "by_picks" ["self", "number", "picks", "kind"] (spByPicks CN CH CR)) :
    MOk P w K mg base (L2.CX P w) 6 CH "by_doubt" ["self", "number", "picks"] (spBy CN CH CR 1) := by
  obtain ⟨f, fd, hm, hb, F⟩ := F
  refine ⟨f, fd, hm, hb, F.okX sc_Holder_by_doubt (fun vs H Q E h => ?_) (fun cdv A outer s H vs Q E hr h => ⟨_, (pss_one (ps_ret (pe_methG M_by_picks T.clH (hr.mono (by decide)) (passes_call (takes_of rfl rfl rfl rfl) (fun _ _ _ _ h => h)) (pv 0) (pa_cons (pv 1) (pa_cons (pv 2) (pa_cons (pe_cI T.ALL) pa_nil)))))), ?_⟩)⟩
  · obtain ⟨h, r, i, l, ps, rfl, _⟩ := h
    rfl
  · obtain ⟨h, r, i, l, ps, rfl, HA, W, hps, TD⟩ := h
    obtain ⟨dx, t, hh, TA⟩ := id HA
    try dsimp only [tSeq, tIfS, tNext, tB, tTest, tEqI, tNeI, tLt, tLe, tGt, tGe, tCmp, t2I, tAsg, tDrop, tRet, gName, tCons, tNil, tBM, tCB, tOp, tCallG, tCallGS, tMethG, tMakeG, tSl, tPart, tNoPart, tLst, tTup, tNot, tNotV, tAnd, tOr, tAndV, tOrV, tIf, tIsN, tNotN, tC, tUn, rU, rI, rI0]
    exact ⟨_, rfl, h, dx, _, rfl, hh, tree_no (by decide +kernel), _, rfl, _, rfl, h, r, i, 1, l, ps, rfl, HA, W, hps, by omega, TD⟩
theorem ok_if_wrong_m (T : Txt K mg CN CR CH CK) (F : MFun K CH "Holder" "if_wrong" s_Holder_if_wrong ["self", "number", "leaf", "misread"]) (G_need : GOk P w K mg base (L2.CX P w) 3 "need" ["is_so", "number"] (spNeed CR)) (M_need_node : MOk P w K mg base (L2.CX P w) 4 CH "need_node" ["self", "number"] (spNeedNode CN CH CR)) (M_need_leaf_of : MOk P w K mg base (L2.CX P w) 4 CH "need_leaf_of" ["self", "number", "leaf"] (spNeedLeafOf CN CH CR)) (G_fraction : GOk P w K mg base CX0 2 "fraction" ["hundredths"] spFraction) (G_right_wins : GOk P w K mg base CX0 3 "right_wins" ["tree", "number"] (spNum CN rw_)) (G_misread_so : GOk P w K mg base CX0 4 "misread_so" ["tree", "number", "misread"] (spMisr CN)) :
    MOk P w K mg base (L2.CX P w) 5 CH "if_wrong" ["self", "number", "leaf", "misread"] (spQ3 CN CH CR .ifWrong) := by
  obtain ⟨f, fd, hm, hb, F⟩ := F
  refine ⟨f, fd, hm, hb, F.okX sc_Holder_if_wrong (fun vs H Q E h => ?_) (fun cdv A outer s H vs Q E hr h => ⟨_, (pss_cons (ps_expr (pe_callG G_need (hr.mono (by decide)) rfl (passes_call (takes_of rfl rfl rfl rfl) (fun _ _ _ _ h => h)) (pa_cons (pe_cmp (pc_le (pv 3) (pe_cI T.WHOLE)) (by rfl)) (pa_cons (pe_cI T.NOTRIGHT) pa_nil)))) (pss_cons (ps_expr (pe_methG M_need_node T.clH (hr.mono (by decide)) (passes_call (takes_of rfl rfl rfl rfl) (fun _ _ _ _ h => h)) (pv 0) (pa_cons (pv 1) pa_nil))) (pss_cons (ps_expr (pe_methG M_need_node T.clH (hr.mono (by decide)) (passes_call (takes_of rfl rfl rfl rfl) (fun _ _ _ _ h => h)) (pv 0) (pa_cons (pv 2) pa_nil))) (pss_cons (ps_expr (pe_methG M_need_leaf_of T.clH (hr.mono (by decide)) (passes_call (takes_of rfl rfl rfl rfl) (fun _ _ _ _ h => h)) (pv 0) (pa_cons (pv 1) (pa_cons (pv 2) pa_nil)))) (pss_one (ps_ret (pe_op op_cat (pe_lst (pa_cons pe_int pa_nil)) (pe_callG G_fraction (hr.mono (by decide)) rfl pass0 (pa_cons (pe_callG G_right_wins (hr.mono (by decide)) rfl pass0 (pa_cons (pe_callG G_misread_so (hr.mono (by decide)) rfl pass0 (pa_cons (pe_fld (pv 0) rfl) (pa_cons (pv 2) (pa_cons (pv 3) pa_nil)))) (pa_cons (pv 1) pa_nil))) pa_nil))))))))), ?_⟩)⟩
  · obtain ⟨h, i, j, m, l, rfl, _⟩ := h
    rfl
  · obtain ⟨h, i, j, m, l, rfl, HA, W, TD⟩ := h
    obtain ⟨dx, t, hh, TA⟩ := id HA
    try dsimp only [tSeq, tIfS, tNext, tB, tTest, tEqI, tNeI, tLt, tLe, tGt, tGe, tCmp, t2I, tAsg, tDrop, tRet, gName, tCons, tNil, tBM, tCB, tOp, tCallG, tCallGS, tMethG, tMakeG, tSl, tPart, tNoPart, tLst, tTup, tNot, tNotV, tAnd, tOr, tAndV, tOrV, tIf, tIsN, tNotN, tC, tUn, rU, rI, rI0]
    refine ⟨_, rfl, _, _, rfl, rfl, _, _, rfl, fun cw => ?_, fun cw => TD.no (-22) (st_ifWrong_bad ?_)⟩
    · have hw : m ≤ 100 := by have := of_decide_eq_true cw; omega
      refine ⟨_, rfl, h, dx, _, rfl, hh, tree_no (by decide +kernel), _, rfl, h, i, l, rfl, HA, fun hi => ?_, fun hi => TD.no (-2) ((st_ifWrong_of hw).trans (st_ofLeaf.1 hi))⟩
      refine ⟨_, rfl, h, dx, _, rfl, hh, tree_no (by decide +kernel), _, rfl, h, j, l, rfl, HA, fun hj => ?_, fun hj => TD.no (-2) ((st_ifWrong_of hw).trans (st_ofLeaf.2 hj))⟩
      refine ⟨_, rfl, h, dx, _, rfl, hh, tree_no (by decide +kernel), _, rfl, _, rfl, h, i, j, l, rfl, HA, W, hi, fun hm' H1 s1 => ?_, fun hm' => TD.no (-33) ((st_ifWrong_of hw).trans ((st_ofLeaf2 W hi hj).1 hm'))⟩
      obtain ⟨_, n, hn, L⟩ := lv_leaf W hi hm'
      refine ⟨small (by show 1 ≤ 100000; decide), fun pz nz => ?_⟩
      generalize e_H0 : upd H1 pz _ = H0; have s0 : Same H1 H0 := e_H0 ▸ same_new nz; have g0 := e_H0 ▸ (upd_same : upd H1 pz _ pz = some _)
      have s10 := s1.trans s0
      refine ⟨_, rfl, h, CH, dx, _, _, rfl, s10 _ _ hh, T.clH, T.nTree, lk_here, _, rfl, _, rfl, t, j, m, l, rfl, TA.same s10, W.len, hj, fun H2 p2 s2 n2 T2 => ?_⟩
      refine ⟨_, rfl, p2, i, _, rfl, T2, W.mis hn hw, by rw [misr_len hj]; exact hi, fun H3 s3 => ⟨_, rfl, fun H4 p4 s4 n4 g4 => ?_⟩⟩
      refine ⟨pz, p4, _, _, rfl, rfl, s4 _ _ (s3 _ _ (s2 _ _ g0)), g4, small (by show 1 + 2 ≤ 100000; decide), fun p n => ?_⟩
      generalize e_H5 : upd H4 p _ = H5; have s5 : Same H4 H5 := e_H5 ▸ same_new n; have g5 := e_H5 ▸ (upd_same : upd H4 p _ p = some _)
      refine TD.ask W HA ((((s10.trans s2).trans s3).trans s4).trans s5) (st_ifWrong W hw hi hm') ?_ (by show 2 ≤ 21; decide)
      rw [g5]
      rfl
    · have := of_decide_eq_false cw
      omega
theorem ok_if_flip_m (T : Txt K mg CN CR CH CK) (F : MFun K CH "Holder" "if_flip" s_Holder_if_flip ["self", "number", "leaf"]) (M_need_node : MOk P w K mg base (L2.CX P w) 4 CH "need_node" ["self", "number"] (spNeedNode CN CH CR)) (M_need_leaf_of : MOk P w K mg base (L2.CX P w) 4 CH "need_leaf_of" ["self", "number", "leaf"] (spNeedLeafOf CN CH CR)) (G_truths : GOk P w K mg base CX0 1 "truths" ["tree"] (spTruths CN)) (G_flipped : GOk P w K mg base CX0 4 "flipped" ["tree", "number"] (spFlipped CN)) :
    MOk P w K mg base (L2.CX P w) 5 CH "if_flip" ["self", "number", "leaf"] (spQ2 CN CH CR .ifFlip) := by
  obtain ⟨f, fd, hm, hb, F⟩ := F
  refine ⟨f, fd, hm, hb, F.okX sc_Holder_if_flip (fun vs H Q E h => ?_) (fun cdv A outer s H vs Q E hr h => ⟨_, (pss_cons (ps_expr (pe_methG M_need_node T.clH (hr.mono (by decide)) (passes_call (takes_of rfl rfl rfl rfl) (fun _ _ _ _ h => h)) (pv 0) (pa_cons (pv 1) pa_nil))) (pss_cons (ps_expr (pe_methG M_need_node T.clH (hr.mono (by decide)) (passes_call (takes_of rfl rfl rfl rfl) (fun _ _ _ _ h => h)) (pv 0) (pa_cons (pv 2) pa_nil))) (pss_cons (ps_expr (pe_methG M_need_leaf_of T.clH (hr.mono (by decide)) (passes_call (takes_of rfl rfl rfl rfl) (fun _ _ _ _ h => h)) (pv 0) (pa_cons (pv 1) (pa_cons (pv 2) pa_nil)))) (pss_one (ps_ret (pe_lst (pa_cons (pe_callTy call_int1 (by rfl) T.int (by decide +kernel) (pa_cons (pe_ix ix_list (pe_callG G_truths (hr.mono (by decide)) rfl pass0 (pa_cons (pe_callG G_flipped (hr.mono (by decide)) rfl pass0 (pa_cons (pe_fld (pv 0) rfl) (pa_cons (pv 2) pa_nil))) pa_nil)) (pv 1) (fun _ _ => rfl)) pa_nil)) pa_nil))))))), ?_⟩)⟩
  · obtain ⟨h, i, j, l, rfl, _⟩ := h
    rfl
  · obtain ⟨h, i, j, l, rfl, HA, W, TD⟩ := h
    obtain ⟨dx, t, hh, TA⟩ := id HA
    try dsimp only [tSeq, tIfS, tNext, tB, tTest, tEqI, tNeI, tLt, tLe, tGt, tGe, tCmp, t2I, tAsg, tDrop, tRet, gName, tCons, tNil, tBM, tCB, tOp, tCallG, tCallGS, tMethG, tMakeG, tSl, tPart, tNoPart, tLst, tTup, tNot, tNotV, tAnd, tOr, tAndV, tOrV, tIf, tIsN, tNotN, tC, tUn, rU, rI, rI0]
    refine ⟨_, rfl, h, dx, _, rfl, hh, tree_no (by decide +kernel), _, rfl, h, i, l, rfl, HA, fun hi => ?_, fun hi => TD.no (-2) (st_ifFlip_of.trans (st_ofLeaf.1 hi))⟩
    refine ⟨_, rfl, h, dx, _, rfl, hh, tree_no (by decide +kernel), _, rfl, h, j, l, rfl, HA, fun hj => ?_, fun hj => TD.no (-2) (st_ifFlip_of.trans (st_ofLeaf.2 hj))⟩
    refine ⟨_, rfl, h, dx, _, rfl, hh, tree_no (by decide +kernel), _, rfl, _, rfl, h, i, j, l, rfl, HA, W, hi, fun hm' H1 s1 => ?_, fun hm' => TD.no (-33) (st_ifFlip_of.trans ((st_ofLeaf2 W hi hj).1 hm'))⟩
    obtain ⟨_, n, hn, L⟩ := lv_leaf W hi hm'
    refine ⟨_, rfl, h, CH, dx, _, _, rfl, s1 _ _ hh, T.clH, T.nTree, lk_here, _, rfl, t, j, l, rfl, TA.same s1, W.len, hj, fun H2 p2 s2 n2 T2 => ?_⟩
    refine ⟨p2, _, rfl, T2, W.flip hn L, fun H3 p3 s3 n3 g3 => ?_⟩
    refine ⟨_, rfl, p3, _, _, _, rfl, rfl, SqL.of g3, truths_at (by rw [flipd_len hj]; exact hi), .inr ⟨_, rfl, small (by show 1 ≤ 100000; decide), fun p n => ?_⟩⟩
    generalize e_H4 : upd H3 p _ = H4; have s4 : Same H3 H4 := e_H4 ▸ same_new n; have g4 := e_H4 ▸ (upd_same : upd H3 p _ p = some _)
    refine TD.ask W HA (((s1.trans s2).trans s3).trans s4) (st_ifFlip W hi hm') ?_ (Nat.zero_le _)
    rw [g4]
    rfl
theorem ok_best_m (T : Txt K mg CN CR CH CK) (F : MFun K CH "Holder" "best" s_Holder_best ["self", "number"]) (G_need : GOk P w K mg base (L2.CX P w) 3 "need" ["is_so", "number"] (spNeed CR)) (M_need_node : MOk P w K mg base (L2.CX P w) 4 CH "need_node" ["self", "number"] (spNeedNode CN CH CR)) (G_fraction : GOk P w K mg base CX0 2 "fraction" ["hundredths"] spFraction) (G_best_leaf : GOk P w K mg base CX0 5 "best_leaf" ["tree", "number"] (spBest CN)) :
    MOk P w K mg base (L2.CX P w) 6 CH "best" ["self", "number"] (spQ1 CN CH CR .best) := by
  obtain ⟨f, fd, hm, hb, F⟩ := F
  refine ⟨f, fd, hm, hb, F.okX sc_Holder_best (fun vs H Q E h => ?_) (fun cdv A outer s H vs Q E hr h => ⟨_, (pss_cons (ps_expr (pe_methG M_need_node T.clH (hr.mono (by decide)) (passes_call (takes_of rfl rfl rfl rfl) (fun _ _ _ _ h => h)) (pv 0) (pa_cons (pv 1) pa_nil))) (pss_cons (ps_set (i := 2) sc_Holder_best.nd rfl (Or.inl rfl) (pe_callG G_best_leaf (hr.mono (by decide)) rfl pass0 (pa_cons (pe_fld (pv 0) rfl) (pa_cons (pv 1) pa_nil)))) (pss_cons (ps_expr (pe_callG G_need (hr.mono (by decide)) rfl (passes_call (takes_of rfl rfl rfl rfl) (fun _ _ _ _ h => h)) (pa_cons (pe_cmp (pc_notN (pv 2)) (by rfl)) (pa_cons (pe_cI T.NOLEAF) pa_nil)))) (pss_cons (ps_asg (pv 2) (pg_tup rfl (pgs_cons (pg_name (i := 3) sc_Holder_best.nd rfl (Or.inl rfl)) (pgs_cons (pg_name (i := 4) sc_Holder_best.nd rfl (Or.inl rfl)) pgs_nil)))) (pss_one (ps_ret (pe_op op_cat (pe_lst (pa_cons (pv 3) pa_nil)) (pe_callG G_fraction (hr.mono (by decide)) rfl pass0 (pa_cons (pv 4) pa_nil))))))))), ?_⟩)⟩
  · obtain ⟨h, i, l, rfl, _⟩ := h
    rfl
  · obtain ⟨h, i, l, rfl, HA, W, TD⟩ := h
    obtain ⟨dx, t, hh, TA⟩ := id HA
    try dsimp only [tSeq, tIfS, tNext, tB, tTest, tEqI, tNeI, tLt, tLe, tGt, tGe, tCmp, t2I, tAsg, tDrop, tRet, gName, tCons, tNil, tBM, tCB, tOp, tCallG, tCallGS, tMethG, tMakeG, tSl, tPart, tNoPart, tLst, tTup, tNot, tNotV, tAnd, tOr, tAndV, tOrV, tIf, tIsN, tNotN, tC, tUn, rU, rI, rI0]
    refine ⟨_, rfl, h, dx, _, rfl, hh, tree_no (by decide +kernel), _, rfl, h, i, l, rfl, HA, fun hi => ?_, fun hi => TD.no (-2) (of_no hi)⟩
    refine ⟨_, rfl, h, CH, dx, _, _, rfl, hh, T.clH, T.nTree, lk_here, _, rfl, t, i, l, rfl, TA, W, hi, fun hb0 H1 s1 => ?_, fun j hj H1 pb s1 g1 => ?_⟩
    · exact ⟨_, rfl, _, _, rfl, (fun c => by cases c), fun _ => (TD.no (-33) (st_best_no W hi hb0)).late s1⟩
    · refine ⟨_, rfl, _, _, rfl, fun _ => ?_, fun c => by cases c⟩
      refine ⟨_, rfl, pb, _, rfl, SqT.of g1, rfl, _, _, rfl, _, _, rfl, rfl, ?_⟩
      refine ⟨_, rfl, small (by show 1 ≤ 100000; decide), fun pz nz => ?_⟩
      generalize e_H0 : upd H1 pz _ = H0; have s0 : Same H1 H0 := e_H0 ▸ same_new nz; have g0 := e_H0 ▸ (upd_same : upd H1 pz _ pz = some _)
      refine ⟨_, rfl, _, rfl, fun H2 p2 s2 n2 g2 => ?_⟩
      refine ⟨pz, p2, _, _, rfl, rfl, s2 _ _ g0, g2, small (by show 1 + 2 ≤ 100000; decide), fun p n => ?_⟩
      generalize e_H3 : upd H2 p _ = H3; have s3 : Same H2 H3 := e_H3 ▸ same_new n; have g3 := e_H3 ▸ (upd_same : upd H2 p _ p = some _)
      refine TD.ask W HA (((s1.trans s0).trans s2).trans s3) (st_best W hi hj) ?_ (by show 2 ≤ 21; decide)
      rw [g3]
      rfl
theorem ok_depth_m (T : Txt K mg CN CR CH CK) (F : MFun K CH "Holder" "depth" s_Holder_depth ["self", "number"]) (M_need_node : MOk P w K mg base (L2.CX P w) 4 CH "need_node" ["self", "number"] (spNeedNode CN CH CR)) (G_depth_of : GOk P w K mg base CX0 1 "depth_of" ["tree", "number"] (spNum CN dp)) :
    MOk P w K mg base (L2.CX P w) 5 CH "depth" ["self", "number"] (spQ1 CN CH CR .depth) := by
  obtain ⟨f, fd, hm, hb, F⟩ := F
  refine ⟨f, fd, hm, hb, F.okX sc_Holder_depth (fun vs H Q E h => ?_) (fun cdv A outer s H vs Q E hr h => ⟨_, (pss_cons (ps_expr (pe_methG M_need_node T.clH (hr.mono (by decide)) (passes_call (takes_of rfl rfl rfl rfl) (fun _ _ _ _ h => h)) (pv 0) (pa_cons (pv 1) pa_nil))) (pss_one (ps_ret (pe_lst (pa_cons (pe_callG G_depth_of (hr.mono (by decide)) rfl pass0 (pa_cons (pe_fld (pv 0) rfl) (pa_cons (pv 1) pa_nil))) pa_nil))))), ?_⟩)⟩
  · obtain ⟨h, i, l, rfl, _⟩ := h
    rfl
  · obtain ⟨h, i, l, rfl, HA, W, TD⟩ := h
    obtain ⟨dx, t, hh, TA⟩ := id HA
    try dsimp only [tSeq, tIfS, tNext, tB, tTest, tEqI, tNeI, tLt, tLe, tGt, tGe, tCmp, t2I, tAsg, tDrop, tRet, gName, tCons, tNil, tBM, tCB, tOp, tCallG, tCallGS, tMethG, tMakeG, tSl, tPart, tNoPart, tLst, tTup, tNot, tNotV, tAnd, tOr, tAndV, tOrV, tIf, tIsN, tNotN, tC, tUn, rU, rI, rI0]
    refine ⟨_, rfl, h, dx, _, rfl, hh, tree_no (by decide +kernel), _, rfl, h, i, l, rfl, HA, fun hi => ?_, fun hi => TD.no (-2) (of_no hi)⟩
    refine ⟨_, rfl, h, CH, dx, _, _, rfl, hh, T.clH, T.nTree, lk_here, _, rfl, t, i, l, rfl, TA, W, hi, fun H1 s1 => ⟨small (by show 1 ≤ 100000; decide), fun p n => ?_⟩⟩
    generalize e_H2 : upd H1 p _ = H2; have s2 : Same H1 H2 := e_H2 ▸ same_new n; have g2 := e_H2 ▸ (upd_same : upd H1 p _ p = some _)
    refine TD.ask W HA (s1.trans s2) (st_depth W hi) ?_ (Nat.zero_le _)
    rw [g2]
    rfl
end
end Dis
end
section
set_option linter.all false
set_option maxRecDepth 100000
set_option maxHeartbeats 4000000
namespace Dis
open PySem PySem.Spec PyProof.Rows L2
open Kp365 (Node)
def spD0 (CN CH CR : Addr) (c : Kp365.Call) : Sp := fun vs H Q E => ∃ (h g : Addr) (l : List Node), vs = [.ref h, .ref g] ∧ HolAt CN CH H h l ∧ WF l ∧ Told CN CH CR H h l c Q E
def spD1 (CN CH CR : Addr) (c : Nat → Kp365.Call) : Sp := fun vs H Q E => ∃ (h g : Addr) (i : Nat) (l : List Node), vs = [.ref h, .ref g] ∧ H g = some (.lst (vN [i])) ∧ HolAt CN CH H h l ∧ WF l ∧ Told CN CH CR H h l (c i) Q E
def spD2 (CN CH CR : Addr) (c : Nat → Nat → Kp365.Call) : Sp := fun vs H Q E => ∃ (h g : Addr) (i j : Nat) (l : List Node), vs = [.ref h, .ref g] ∧ H g = some (.lst (vN [i, j])) ∧ HolAt CN CH H h l ∧ WF l ∧ Told CN CH CR H h l (c i j) Q E
def spD3 (CN CH CR : Addr) (c : Nat → Nat → Nat → Kp365.Call) : Sp := fun vs H Q E => ∃ (h g : Addr) (i j m : Nat) (l : List Node), vs = [.ref h, .ref g] ∧ H g = some (.lst (vN [i, j, m])) ∧ HolAt CN CH H h l ∧ WF l ∧ Told CN CH CR H h l (c i j m) Q E
def spDup (CN CH CR : Addr) (kind : Nat) : Sp := fun vs H Q E => ∃ (h g : Addr) (row : List Nat) (l : List Node), vs = [.ref h, .ref g] ∧ H g = some (.lst (vN row)) ∧ row.length ≤ 6 ∧ HolAt CN CH H h l ∧ WF l ∧ Told CN CH CR H h l (upC kind row) Q E
def spDby (CN CH CR : Addr) (kind : Nat) : Sp := fun vs H Q E => ∃ (h g : Addr) (i : Nat) (ps : List Nat) (l : List Node), vs = [.ref h, .ref g] ∧ H g = some (.lst (vN (i :: ps))) ∧ HolAt CN CH H h l ∧ WF l ∧ Told CN CH CR H h l (byC kind i ps) Q E
abbrev s_leaf : Stmt := top 43
theorem sc_leaf : FnScope ["holder", "given"] ["holder", "given"] (defScope s_leaf) := ⟨rfl, rfl, rfl, by decide +kernel, rfl, by decide +kernel, by decide +kernel⟩
abbrev s_all_of : Stmt := top 44
theorem sc_all_of : FnScope ["holder", "given"] ["holder", "given"] (defScope s_all_of) := ⟨rfl, rfl, rfl, by decide +kernel, rfl, by decide +kernel, by decide +kernel⟩
abbrev s_some : Stmt := top 45
theorem sc_some : FnScope ["holder", "given"] ["holder", "given"] (defScope s_some) := ⟨rfl, rfl, rfl, by decide +kernel, rfl, by decide +kernel, by decide +kernel⟩
abbrev s_pop : Stmt := top 46
theorem sc_pop : FnScope ["holder", "given"] ["holder", "given"] (defScope s_pop) := ⟨rfl, rfl, rfl, by decide +kernel, rfl, by decide +kernel, by decide +kernel⟩
abbrev s_node_is : Stmt := top 47
theorem sc_node_is : FnScope ["holder", "given"] ["holder", "given"] (defScope s_node_is) := ⟨rfl, rfl, rfl, by decide +kernel, rfl, by decide +kernel, by decide +kernel⟩
abbrev s_flip : Stmt := top 48
theorem sc_flip : FnScope ["holder", "given"] ["holder", "given"] (defScope s_flip) := ⟨rfl, rfl, rfl, by decide +kernel, rfl, by decide +kernel, by decide +kernel⟩
abbrev s_wrong : Stmt := top 49
theorem sc_wrong : FnScope ["holder", "given"] ["holder", "given"] (defScope s_wrong) := ⟨rfl, rfl, rfl, by decide +kernel, rfl, by decide +kernel, by decide +kernel⟩
abbrev s_is_true : Stmt := top 50
theorem sc_is_true : FnScope ["holder", "given"] ["holder", "given"] (defScope s_is_true) := ⟨rfl, rfl, rfl, by decide +kernel, rfl, by decide +kernel, by decide +kernel⟩
abbrev s_held : Stmt := top 51
theorem sc_held : FnScope ["holder", "given"] ["holder", "given"] (defScope s_held) := ⟨rfl, rfl, rfl, by decide +kernel, rfl, by decide +kernel, by decide +kernel⟩
abbrev s_right : Stmt := top 52
theorem sc_right : FnScope ["holder", "given"] ["holder", "given"] (defScope s_right) := ⟨rfl, rfl, rfl, by decide +kernel, rfl, by decide +kernel, by decide +kernel⟩
abbrev s_pick : Stmt := top 53
theorem sc_pick : FnScope ["holder", "given"] ["holder", "given"] (defScope s_pick) := ⟨rfl, rfl, rfl, by decide +kernel, rfl, by decide +kernel, by decide +kernel⟩
abbrev s_way : Stmt := top 54
theorem sc_way : FnScope ["holder", "given"] ["holder", "given"] (defScope s_way) := ⟨rfl, rfl, rfl, by decide +kernel, rfl, by decide +kernel, by decide +kernel⟩
abbrev s_by_say : Stmt := top 55
theorem sc_by_say : FnScope ["holder", "given"] ["holder", "given"] (defScope s_by_say) := ⟨rfl, rfl, rfl, by decide +kernel, rfl, by decide +kernel, by decide +kernel⟩
abbrev s_by_doubt : Stmt := top 56
theorem sc_by_doubt : FnScope ["holder", "given"] ["holder", "given"] (defScope s_by_doubt) := ⟨rfl, rfl, rfl, by decide +kernel, rfl, by decide +kernel, by decide +kernel⟩
abbrev s_proof : Stmt := top 57
theorem sc_proof : FnScope ["holder", "given"] ["holder", "given"] (defScope s_proof) := ⟨rfl, rfl, rfl, by decide +kernel, rfl, by decide +kernel, by decide +kernel⟩
abbrev s_leaves : Stmt := top 58
theorem sc_leaves : FnScope ["holder", "given"] ["holder", "given"] (defScope s_leaves) := ⟨rfl, rfl, rfl, by decide +kernel, rfl, by decide +kernel, by decide +kernel⟩
abbrev s_matter : Stmt := top 59
theorem sc_matter : FnScope ["holder", "given"] ["holder", "given"] (defScope s_matter) := ⟨rfl, rfl, rfl, by decide +kernel, rfl, by decide +kernel, by decide +kernel⟩
abbrev s_if_wrong : Stmt := top 60
theorem sc_if_wrong : FnScope ["holder", "given"] ["holder", "given"] (defScope s_if_wrong) := ⟨rfl, rfl, rfl, by decide +kernel, rfl, by decide +kernel, by decide +kernel⟩
abbrev s_if_flip : Stmt := top 61
theorem sc_if_flip : FnScope ["holder", "given"] ["holder", "given"] (defScope s_if_flip) := ⟨rfl, rfl, rfl, by decide +kernel, rfl, by decide +kernel, by decide +kernel⟩
abbrev s_best : Stmt := top 62
theorem sc_best : FnScope ["holder", "given"] ["holder", "given"] (defScope s_best) := ⟨rfl, rfl, rfl, by decide +kernel, rfl, by decide +kernel, by decide +kernel⟩
abbrev s_depth : Stmt := top 63
theorem sc_depth : FnScope ["holder", "given"] ["holder", "given"] (defScope s_depth) := ⟨rfl, rfl, rfl, by decide +kernel, rfl, by decide +kernel, by decide +kernel⟩
section
variable {P : Program} {w : World} {K : PySem.W.Frag} {mg : Str → Option Value} {base : Heap} {CN CR CH CK : Addr}
theorem deed_node_is (T : Txt K mg CN CR CH CK) (F : GFun K mg "node_is" s_node_is ["holder", "given"]) (M_node_is : MOk P w K mg base (L2.CX P w) 5 CH "node_is" ["self", "number"] (spQ1 CN CH CR .nodeIs)) : GOk P w K mg base (L2.CX P w) 6 "node_is" ["holder", "given"] (spD1 CN CH CR .nodeIs) := by
  obtain ⟨f, fd, hm, hk, hb, F⟩ := F
  refine ⟨f, fd, hm, hk, hb, F.okX sc_node_is (fun vs H Q E h => ?_) (fun cdv A outer s H vs Q E hr h => ⟨_, (pss_one (ps_ret (pe_methG M_node_is T.clH (hr.mono (by decide)) (passes_call (takes_of rfl rfl rfl rfl) (fun _ _ _ _ h => h)) (pv 0) (pa_cons (pe_ix ix_list (pv 1) pe_int (fun _ _ => rfl)) pa_nil)))), ?_⟩)⟩
  · obtain ⟨h, g, i, l, rfl, _⟩ := h
    rfl
  · obtain ⟨h, g, i, l, rfl, hg, HA, W, TD⟩ := h
    obtain ⟨dx, t, hh, TA⟩ := id HA
    try dsimp only [tSeq, tIfS, tNext, tB, tTest, tEqI, tNeI, tLt, tLe, tGt, tGe, tCmp, t2I, tAsg, tDrop, tRet, gName, tCons, tNil, tBM, tCB, tOp, tCallG, tCallGS, tMethG, tMakeG, tSl, tPart, tNoPart, tLst, tTup, tNot, tNotV, tAnd, tOr, tAndV, tOrV, tIf, tIsN, tNotN, tC, tUn, rU, rI, rI0]
    exact ⟨_, rfl, h, dx, _, rfl, hh, tree_no (by decide +kernel), _, rfl, g, _, _, _, rfl, rfl, SqL.of hg, atI_nat (j := 0) rfl, h, i, l, rfl, HA, W, TD⟩
theorem deed_flip (T : Txt K mg CN CR CH CK) (F : GFun K mg "flip" s_flip ["holder", "given"]) (M_flip : MOk P w K mg base (L2.CX P w) 5 CH "flip" ["self", "number"] (spQ1 CN CH CR .flip)) : GOk P w K mg base (L2.CX P w) 6 "flip" ["holder", "given"] (spD1 CN CH CR .flip) := by
  obtain ⟨f, fd, hm, hk, hb, F⟩ := F
  refine ⟨f, fd, hm, hk, hb, F.okX sc_flip (fun vs H Q E h => ?_) (fun cdv A outer s H vs Q E hr h => ⟨_, (pss_one (ps_ret (pe_methG M_flip T.clH (hr.mono (by decide)) (passes_call (takes_of rfl rfl rfl rfl) (fun _ _ _ _ h => h)) (pv 0) (pa_cons (pe_ix ix_list (pv 1) pe_int (fun _ _ => rfl)) pa_nil)))), ?_⟩)⟩
  · obtain ⟨h, g, i, l, rfl, _⟩ := h
    rfl
  · obtain ⟨h, g, i, l, rfl, hg, HA, W, TD⟩ := h
    obtain ⟨dx, t, hh, TA⟩ := id HA
    try dsimp only [tSeq, tIfS, tNext, tB, tTest, tEqI, tNeI, tLt, tLe, tGt, tGe, tCmp, t2I, tAsg, tDrop, tRet, gName, tCons, tNil, tBM, tCB, tOp, tCallG, tCallGS, tMethG, tMakeG, tSl, tPart, tNoPart, tLst, tTup, tNot, tNotV, tAnd, tOr, tAndV, tOrV, tIf, tIsN, tNotN, tC, tUn, rU, rI, rI0]
    exact ⟨_, rfl, h, dx, _, rfl, hh, tree_no (by decide +kernel), _, rfl, g, _, _, _, rfl, rfl, SqL.of hg, atI_nat (j := 0) rfl, h, i, l, rfl, HA, W, TD⟩
theorem deed_is_true (T : Txt K mg CN CR CH CK) (F : GFun K mg "is_true" s_is_true ["holder", "given"]) (M_is_true : MOk P w K mg base (L2.CX P w) 5 CH "is_true" ["self", "number"] (spQ1 CN CH CR .true_)) : GOk P w K mg base (L2.CX P w) 6 "is_true" ["holder", "given"] (spD1 CN CH CR .true_) := by
  obtain ⟨f, fd, hm, hk, hb, F⟩ := F
  refine ⟨f, fd, hm, hk, hb, F.okX sc_is_true (fun vs H Q E h => ?_) (fun cdv A outer s H vs Q E hr h => ⟨_, (pss_one (ps_ret (pe_methG M_is_true T.clH (hr.mono (by decide)) (passes_call (takes_of rfl rfl rfl rfl) (fun _ _ _ _ h => h)) (pv 0) (pa_cons (pe_ix ix_list (pv 1) pe_int (fun _ _ => rfl)) pa_nil)))), ?_⟩)⟩
  · obtain ⟨h, g, i, l, rfl, _⟩ := h
    rfl
  · obtain ⟨h, g, i, l, rfl, hg, HA, W, TD⟩ := h
    obtain ⟨dx, t, hh, TA⟩ := id HA
    try dsimp only [tSeq, tIfS, tNext, tB, tTest, tEqI, tNeI, tLt, tLe, tGt, tGe, tCmp, t2I, tAsg, tDrop, tRet, gName, tCons, tNil, tBM, tCB, tOp, tCallG, tCallGS, tMethG, tMakeG, tSl, tPart, tNoPart, tLst, tTup, tNot, tNotV, tAnd, tOr, tAndV, tOrV, tIf, tIsN, tNotN, tC, tUn, rU, rI, rI0]
    exact ⟨_, rfl, h, dx, _, rfl, hh, tree_no (by decide +kernel), _, rfl, g, _, _, _, rfl, rfl, SqL.of hg, atI_nat (j := 0) rfl, h, i, l, rfl, HA, W, TD⟩
theorem deed_held (T : Txt K mg CN CR CH CK) (F : GFun K mg "held" s_held ["holder", "given"]) (M_held : MOk P w K mg base (L2.CX P w) 5 CH "held" ["self", "number"] (spQ1 CN CH CR .held)) : GOk P w K mg base (L2.CX P w) 6 "held" ["holder", "given"] (spD1 CN CH CR .held) := by
  obtain ⟨f, fd, hm, hk, hb, F⟩ := F
  refine ⟨f, fd, hm, hk, hb, F.okX sc_held (fun vs H Q E h => ?_) (fun cdv A outer s H vs Q E hr h => ⟨_, (pss_one (ps_ret (pe_methG M_held T.clH (hr.mono (by decide)) (passes_call (takes_of rfl rfl rfl rfl) (fun _ _ _ _ h => h)) (pv 0) (pa_cons (pe_ix ix_list (pv 1) pe_int (fun _ _ => rfl)) pa_nil)))), ?_⟩)⟩
  · obtain ⟨h, g, i, l, rfl, _⟩ := h
    rfl
  · obtain ⟨h, g, i, l, rfl, hg, HA, W, TD⟩ := h
    obtain ⟨dx, t, hh, TA⟩ := id HA
    try dsimp only [tSeq, tIfS, tNext, tB, tTest, tEqI, tNeI, tLt, tLe, tGt, tGe, tCmp, t2I, tAsg, tDrop, tRet, gName, tCons, tNil, tBM, tCB, tOp, tCallG, tCallGS, tMethG, tMakeG, tSl, tPart, tNoPart, tLst, tTup, tNot, tNotV, tAnd, tOr, tAndV, tOrV, tIf, tIsN, tNotN, tC, tUn, rU, rI, rI0]
    exact ⟨_, rfl, h, dx, _, rfl, hh, tree_no (by decide +kernel), _, rfl, g, _, _, _, rfl, rfl, SqL.of hg, atI_nat (j := 0) rfl, h, i, l, rfl, HA, W, TD⟩
theorem deed_right (T : Txt K mg CN CR CH CK) (F : GFun K mg "right" s_right ["holder", "given"]) (M_right : MOk P w K mg base (L2.CX P w) 5 CH "right" ["self", "number"] (spQ1 CN CH CR .right)) : GOk P w K mg base (L2.CX P w) 6 "right" ["holder", "given"] (spD1 CN CH CR .right) := by
  obtain ⟨f, fd, hm, hk, hb, F⟩ := F
  refine ⟨f, fd, hm, hk, hb, F.okX sc_right (fun vs H Q E h => ?_) (fun cdv A outer s H vs Q E hr h => ⟨_, (pss_one (ps_ret (pe_methG M_right T.clH (hr.mono (by decide)) (passes_call (takes_of rfl rfl rfl rfl) (fun _ _ _ _ h => h)) (pv 0) (pa_cons (pe_ix ix_list (pv 1) pe_int (fun _ _ => rfl)) pa_nil)))), ?_⟩)⟩
  · obtain ⟨h, g, i, l, rfl, _⟩ := h
    rfl
  · obtain ⟨h, g, i, l, rfl, hg, HA, W, TD⟩ := h
    obtain ⟨dx, t, hh, TA⟩ := id HA
    try dsimp only [tSeq, tIfS, tNext, tB, tTest, tEqI, tNeI, tLt, tLe, tGt, tGe, tCmp, t2I, tAsg, tDrop, tRet, gName, tCons, tNil, tBM, tCB, tOp, tCallG, tCallGS, tMethG, tMakeG, tSl, tPart, tNoPart, tLst, tTup, tNot, tNotV, tAnd, tOr, tAndV, tOrV, tIf, tIsN, tNotN, tC, tUn, rU, rI, rI0]
    exact ⟨_, rfl, h, dx, _, rfl, hh, tree_no (by decide +kernel), _, rfl, g, _, _, _, rfl, rfl, SqL.of hg, atI_nat (j := 0) rfl, h, i, l, rfl, HA, W, TD⟩
theorem deed_pick (T : Txt K mg CN CR CH CK) (F : GFun K mg "pick" s_pick ["holder", "given"]) (M_pick : MOk P w K mg base (L2.CX P w) 5 CH "pick" ["self", "number"] (spQ1 CN CH CR .pick)) : GOk P w K mg base (L2.CX P w) 6 "pick" ["holder", "given"] (spD1 CN CH CR .pick) := by
  obtain ⟨f, fd, hm, hk, hb, F⟩ := F
  refine ⟨f, fd, hm, hk, hb, F.okX sc_pick (fun vs H Q E h => ?_) (fun cdv A outer s H vs Q E hr h => ⟨_, (pss_one (ps_ret (pe_methG M_pick T.clH (hr.mono (by decide)) (passes_call (takes_of rfl rfl rfl rfl) (fun _ _ _ _ h => h)) (pv 0) (pa_cons (pe_ix ix_list (pv 1) pe_int (fun _ _ => rfl)) pa_nil)))), ?_⟩)⟩
  · obtain ⟨h, g, i, l, rfl, _⟩ := h
    rfl
  · obtain ⟨h, g, i, l, rfl, hg, HA, W, TD⟩ := h
    obtain ⟨dx, t, hh, TA⟩ := id HA
    try dsimp only [tSeq, tIfS, tNext, tB, tTest, tEqI, tNeI, tLt, tLe, tGt, tGe, tCmp, t2I, tAsg, tDrop, tRet, gName, tCons, tNil, tBM, tCB, tOp, tCallG, tCallGS, tMethG, tMakeG, tSl, tPart, tNoPart, tLst, tTup, tNot, tNotV, tAnd, tOr, tAndV, tOrV, tIf, tIsN, tNotN, tC, tUn, rU, rI, rI0]
    exact ⟨_, rfl, h, dx, _, rfl, hh, tree_no (by decide +kernel), _, rfl, g, _, _, _, rfl, rfl, SqL.of hg, atI_nat (j := 0) rfl, h, i, l, rfl, HA, W, TD⟩
theorem deed_way (T : Txt K mg CN CR CH CK) (F : GFun K mg "way" s_way ["holder", "given"]) (M_way : MOk P w K mg base (L2.CX P w) 5 CH "way" ["self", "number"] (spQ1 CN CH CR .way)) : GOk P w K mg base (L2.CX P w) 6 "way" ["holder", "given"] (spD1 CN CH CR .way) := by
  obtain ⟨f, fd, hm, hk, hb, F⟩ := F
  refine ⟨f, fd, hm, hk, hb, F.okX sc_way (fun vs H Q E h => ?_) (fun cdv A outer s H vs Q E hr h => ⟨_, (pss_one (ps_ret (pe_methG M_way T.clH (hr.mono (by decide)) (passes_call (takes_of rfl rfl rfl rfl) (fun _ _ _ _ h => h)) (pv 0) (pa_cons (pe_ix ix_list (pv 1) pe_int (fun _ _ => rfl)) pa_nil)))), ?_⟩)⟩
  · obtain ⟨h, g, i, l, rfl, _⟩ := h
    rfl
  · obtain ⟨h, g, i, l, rfl, hg, HA, W, TD⟩ := h
    obtain ⟨dx, t, hh, TA⟩ := id HA
    try dsimp only [tSeq, tIfS, tNext, tB, tTest, tEqI, tNeI, tLt, tLe, tGt, tGe, tCmp, t2I, tAsg, tDrop, tRet, gName, tCons, tNil, tBM, tCB, tOp, tCallG, tCallGS, tMethG, tMakeG, tSl, tPart, tNoPart, tLst, tTup, tNot, tNotV, tAnd, tOr, tAndV, tOrV, tIf, tIsN, tNotN, tC, tUn, rU, rI, rI0]
    exact ⟨_, rfl, h, dx, _, rfl, hh, tree_no (by decide +kernel), _, rfl, g, _, _, _, rfl, rfl, SqL.of hg, atI_nat (j := 0) rfl, h, i, l, rfl, HA, W, TD⟩
theorem deed_proof (T : Txt K mg CN CR CH CK) (F : GFun K mg "proof" s_proof ["holder", "given"]) (M_proof : MOk P w K mg base (L2.CX P w) 5 CH "proof" ["self", "number"] (spQ1 CN CH CR .proof)) : GOk P w K mg base (L2.CX P w) 6 "proof" ["holder", "given"] (spD1 CN CH CR .proof) := by
  obtain ⟨f, fd, hm, hk, hb, F⟩ := F
  refine ⟨f, fd, hm, hk, hb, F.okX sc_proof (fun vs H Q E h => ?_) (fun cdv A outer s H vs Q E hr h => ⟨_, (pss_one (ps_ret (pe_methG M_proof T.clH (hr.mono (by decide)) (passes_call (takes_of rfl rfl rfl rfl) (fun _ _ _ _ h => h)) (pv 0) (pa_cons (pe_ix ix_list (pv 1) pe_int (fun _ _ => rfl)) pa_nil)))), ?_⟩)⟩
  · obtain ⟨h, g, i, l, rfl, _⟩ := h
    rfl
  · obtain ⟨h, g, i, l, rfl, hg, HA, W, TD⟩ := h
    obtain ⟨dx, t, hh, TA⟩ := id HA
    try dsimp only [tSeq, tIfS, tNext, tB, tTest, tEqI, tNeI, tLt, tLe, tGt, tGe, tCmp, t2I, tAsg, tDrop, tRet, gName, tCons, tNil, tBM, tCB, tOp, tCallG, tCallGS, tMethG, tMakeG, tSl, tPart, tNoPart, tLst, tTup, tNot, tNotV, tAnd, tOr, tAndV, tOrV, tIf, tIsN, tNotN, tC, tUn, rU, rI, rI0]
    exact ⟨_, rfl, h, dx, _, rfl, hh, tree_no (by decide +kernel), _, rfl, g, _, _, _, rfl, rfl, SqL.of hg, atI_nat (j := 0) rfl, h, i, l, rfl, HA, W, TD⟩
theorem deed_leaves (T : Txt K mg CN CR CH CK) (F : GFun K mg "leaves" s_leaves ["holder", "given"]) (M_leaves : MOk P w K mg base (L2.CX P w) 5 CH "leaves" ["self", "number"] (spQ1 CN CH CR .leaves)) : GOk P w K mg base (L2.CX P w) 6 "leaves" ["holder", "given"] (spD1 CN CH CR .leaves) := by
  obtain ⟨f, fd, hm, hk, hb, F⟩ := F
  refine ⟨f, fd, hm, hk, hb, F.okX sc_leaves (fun vs H Q E h => ?_) (fun cdv A outer s H vs Q E hr h => ⟨_, (pss_one (ps_ret (pe_methG M_leaves T.clH (hr.mono (by decide)) (passes_call (takes_of rfl rfl rfl rfl) (fun _ _ _ _ h => h)) (pv 0) (pa_cons (pe_ix ix_list (pv 1) pe_int (fun _ _ => rfl)) pa_nil)))), ?_⟩)⟩
  · obtain ⟨h, g, i, l, rfl, _⟩ := h
    rfl
  · obtain ⟨h, g, i, l, rfl, hg, HA, W, TD⟩ := h
    obtain ⟨dx, t, hh, TA⟩ := id HA
    try dsimp only [tSeq, tIfS, tNext, tB, tTest, tEqI, tNeI, tLt, tLe, tGt, tGe, tCmp, t2I, tAsg, tDrop, tRet, gName, tCons, tNil, tBM, tCB, tOp, tCallG, tCallGS, tMethG, tMakeG, tSl, tPart, tNoPart, tLst, tTup, tNot, tNotV, tAnd, tOr, tAndV, tOrV, tIf, tIsN, tNotN, tC, tUn, rU, rI, rI0]
    exact ⟨_, rfl, h, dx, _, rfl, hh, tree_no (by decide +kernel), _, rfl, g, _, _, _, rfl, rfl, SqL.of hg, atI_nat (j := 0) rfl, h, i, l, rfl, HA, W, TD⟩
theorem deed_matter (T : Txt K mg CN CR CH CK) (F : GFun K mg "matter" s_matter ["holder", "given"]) (M_matter : MOk P w K mg base (L2.CX P w) 6 CH "matter" ["self", "number"] (spQ1 CN CH CR .matter)) : GOk P w K mg base (L2.CX P w) 7 "matter" ["holder", "given"] (spD1 CN CH CR .matter) := by
  obtain ⟨f, fd, hm, hk, hb, F⟩ := F
  refine ⟨f, fd, hm, hk, hb, F.okX sc_matter (fun vs H Q E h => ?_) (fun cdv A outer s H vs Q E hr h => ⟨_, (pss_one (ps_ret (pe_methG M_matter T.clH (hr.mono (by decide)) (passes_call (takes_of rfl rfl rfl rfl) (fun _ _ _ _ h => h)) (pv 0) (pa_cons (pe_ix ix_list (pv 1) pe_int (fun _ _ => rfl)) pa_nil)))), ?_⟩)⟩
  · obtain ⟨h, g, i, l, rfl, _⟩ := h
    rfl
  · obtain ⟨h, g, i, l, rfl, hg, HA, W, TD⟩ := h
    obtain ⟨dx, t, hh, TA⟩ := id HA
    try dsimp only [tSeq, tIfS, tNext, tB, tTest, tEqI, tNeI, tLt, tLe, tGt, tGe, tCmp, t2I, tAsg, tDrop, tRet, gName, tCons, tNil, tBM, tCB, tOp, tCallG, tCallGS, tMethG, tMakeG, tSl, tPart, tNoPart, tLst, tTup, tNot, tNotV, tAnd, tOr, tAndV, tOrV, tIf, tIsN, tNotN, tC, tUn, rU, rI, rI0]
    exact ⟨_, rfl, h, dx, _, rfl, hh, tree_no (by decide +kernel), _, rfl, g, _, _, _, rfl, rfl, SqL.of hg, atI_nat (j := 0) rfl, h, i, l, rfl, HA, W, TD⟩
theorem deed_best (T : Txt K mg CN CR CH CK) (F : GFun K mg "best" s_best ["holder", "given"]) (M_best : MOk P w K mg base (L2.CX P w) 6 CH "best" ["self", "number"] (spQ1 CN CH CR .best)) : GOk P w K mg base (L2.CX P w) 7 "best" ["holder", "given"] (spD1 CN CH CR .best) := by
  obtain ⟨f, fd, hm, hk, hb, F⟩ := F
  refine ⟨f, fd, hm, hk, hb, F.okX sc_best (fun vs H Q E h => ?_) (fun cdv A outer s H vs Q E hr h => ⟨_, (pss_one (ps_ret (pe_methG M_best T.clH (hr.mono (by decide)) (passes_call (takes_of rfl rfl rfl rfl) (fun _ _ _ _ h => h)) (pv 0) (pa_cons (pe_ix ix_list (pv 1) pe_int (fun _ _ => rfl)) pa_nil)))), ?_⟩)⟩
  · obtain ⟨h, g, i, l, rfl, _⟩ := h
    rfl
  · obtain ⟨h, g, i, l, rfl, hg, HA, W, TD⟩ := h
    obtain ⟨dx, t, hh, TA⟩ := id HA
    try dsimp only [tSeq, tIfS, tNext, tB, tTest, tEqI, tNeI, tLt, tLe, tGt, tGe, tCmp, t2I, tAsg, tDrop, tRet, gName, tCons, tNil, tBM, tCB, tOp, tCallG, tCallGS, tMethG, tMakeG, tSl, tPart, tNoPart, tLst, tTup, tNot, tNotV, tAnd, tOr, tAndV, tOrV, tIf, tIsN, tNotN, tC, tUn, rU, rI, rI0]
    exact ⟨_, rfl, h, dx, _, rfl, hh, tree_no (by decide +kernel), _, rfl, g, _, _, _, rfl, rfl, SqL.of hg, atI_nat (j := 0) rfl, h, i, l, rfl, HA, W, TD⟩
theorem deed_depth (T : Txt K mg CN CR CH CK) (F : GFun K mg "depth" s_depth ["holder", "given"]) (M_depth : MOk P w K mg base (L2.CX P w) 5 CH "depth" ["self", "number"] (spQ1 CN CH CR .depth)) : GOk P w K mg base (L2.CX P w) 6 "depth" ["holder", "given"] (spD1 CN CH CR .depth) := by
  obtain ⟨f, fd, hm, hk, hb, F⟩ := F
  refine ⟨f, fd, hm, hk, hb, F.okX sc_depth (fun vs H Q E h => ?_) (fun cdv A outer s H vs Q E hr h => ⟨_, (pss_one (ps_ret (pe_methG M_depth T.clH (hr.mono (by decide)) (passes_call (takes_of rfl rfl rfl rfl) (fun _ _ _ _ h => h)) (pv 0) (pa_cons (pe_ix ix_list (pv 1) pe_int (fun _ _ => rfl)) pa_nil)))), ?_⟩)⟩
  · obtain ⟨h, g, i, l, rfl, _⟩ := h
    rfl
  · obtain ⟨h, g, i, l, rfl, hg, HA, W, TD⟩ := h
    obtain ⟨dx, t, hh, TA⟩ := id HA
    try dsimp only [tSeq, tIfS, tNext, tB, tTest, tEqI, tNeI, tLt, tLe, tGt, tGe, tCmp, t2I, tAsg, tDrop, tRet, gName, tCons, tNil, tBM, tCB, tOp, tCallG, tCallGS, tMethG, tMakeG, tSl, tPart, tNoPart, tLst, tTup, tNot, tNotV, tAnd, tOr, tAndV, tOrV, tIf, tIsN, tNotN, tC, tUn, rU, rI, rI0]
    exact ⟨_, rfl, h, dx, _, rfl, hh, tree_no (by decide +kernel), _, rfl, g, _, _, _, rfl, rfl, SqL.of hg, atI_nat (j := 0) rfl, h, i, l, rfl, HA, W, TD⟩
theorem deed_leaf (T : Txt K mg CN CR CH CK) (F : GFun K mg "leaf" s_leaf ["holder", "given"]) (M_leaf : MOk P w K mg base (L2.CX P w) 5 CH "leaf" ["self", "so", "misread"] (spQ2 CN CH CR .leaf)) : GOk P w K mg base (L2.CX P w) 6 "leaf" ["holder", "given"] (spD2 CN CH CR .leaf) := by
  obtain ⟨f, fd, hm, hk, hb, F⟩ := F
  refine ⟨f, fd, hm, hk, hb, F.okX sc_leaf (fun vs H Q E h => ?_) (fun cdv A outer s H vs Q E hr h => ⟨_, (pss_one (ps_ret (pe_methG M_leaf T.clH (hr.mono (by decide)) (passes_call (takes_of rfl rfl rfl rfl) (fun _ _ _ _ h => h)) (pv 0) (pa_cons (pe_ix ix_list (pv 1) pe_int (fun _ _ => rfl)) (pa_cons (pe_ix ix_list (pv 1) pe_int (fun _ _ => rfl)) pa_nil))))), ?_⟩)⟩
  · obtain ⟨h, g, i, j, l, rfl, _⟩ := h
    rfl
  · obtain ⟨h, g, i, j, l, rfl, hg, HA, W, TD⟩ := h
    obtain ⟨dx, t, hh, TA⟩ := id HA
    try dsimp only [tSeq, tIfS, tNext, tB, tTest, tEqI, tNeI, tLt, tLe, tGt, tGe, tCmp, t2I, tAsg, tDrop, tRet, gName, tCons, tNil, tBM, tCB, tOp, tCallG, tCallGS, tMethG, tMakeG, tSl, tPart, tNoPart, tLst, tTup, tNot, tNotV, tAnd, tOr, tAndV, tOrV, tIf, tIsN, tNotN, tC, tUn, rU, rI, rI0]
    exact ⟨_, rfl, h, dx, _, rfl, hh, tree_no (by decide +kernel), _, rfl, g, _, _, _, rfl, rfl, SqL.of hg, atI_nat (j := 0) rfl, _, rfl, g, _, _, _, rfl, rfl, SqL.of hg, atI_nat (j := 1) rfl, h, i, j, l, rfl, HA, W, TD⟩
theorem deed_wrong (T : Txt K mg CN CR CH CK) (F : GFun K mg "wrong" s_wrong ["holder", "given"]) (M_wrong : MOk P w K mg base (L2.CX P w) 5 CH "wrong" ["self", "number", "misread"] (spQ2 CN CH CR .wrong)) : GOk P w K mg base (L2.CX P w) 6 "wrong" ["holder", "given"] (spD2 CN CH CR .wrong) := by
  obtain ⟨f, fd, hm, hk, hb, F⟩ := F
  refine ⟨f, fd, hm, hk, hb, F.okX sc_wrong (fun vs H Q E h => ?_) (fun cdv A outer s H vs Q E hr h => ⟨_, (pss_one (ps_ret (pe_methG M_wrong T.clH (hr.mono (by decide)) (passes_call (takes_of rfl rfl rfl rfl) (fun _ _ _ _ h => h)) (pv 0) (pa_cons (pe_ix ix_list (pv 1) pe_int (fun _ _ => rfl)) (pa_cons (pe_ix ix_list (pv 1) pe_int (fun _ _ => rfl)) pa_nil))))), ?_⟩)⟩
  · obtain ⟨h, g, i, j, l, rfl, _⟩ := h
    rfl
  · obtain ⟨h, g, i, j, l, rfl, hg, HA, W, TD⟩ := h
    obtain ⟨dx, t, hh, TA⟩ := id HA
    try dsimp only [tSeq, tIfS, tNext, tB, tTest, tEqI, tNeI, tLt, tLe, tGt, tGe, tCmp, t2I, tAsg, tDrop, tRet, gName, tCons, tNil, tBM, tCB, tOp, tCallG, tCallGS, tMethG, tMakeG, tSl, tPart, tNoPart, tLst, tTup, tNot, tNotV, tAnd, tOr, tAndV, tOrV, tIf, tIsN, tNotN, tC, tUn, rU, rI, rI0]
    exact ⟨_, rfl, h, dx, _, rfl, hh, tree_no (by decide +kernel), _, rfl, g, _, _, _, rfl, rfl, SqL.of hg, atI_nat (j := 0) rfl, _, rfl, g, _, _, _, rfl, rfl, SqL.of hg, atI_nat (j := 1) rfl, h, i, j, l, rfl, HA, W, TD⟩
theorem deed_if_flip (T : Txt K mg CN CR CH CK) (F : GFun K mg "if_flip" s_if_flip ["holder", "given"]) (M_if_flip : MOk P w K mg base (L2.CX P w) 5 CH "if_flip" ["self", "number", "leaf"] (spQ2 CN CH CR .ifFlip)) : GOk P w K mg base (L2.CX P w) 6 "if_flip" ["holder", "given"] (spD2 CN CH CR .ifFlip) := by
  obtain ⟨f, fd, hm, hk, hb, F⟩ := F
  refine ⟨f, fd, hm, hk, hb, F.okX sc_if_flip (fun vs H Q E h => ?_) (fun cdv A outer s H vs Q E hr h => ⟨_, (pss_one (ps_ret (pe_methG M_if_flip T.clH (hr.mono (by decide)) (passes_call (takes_of rfl rfl rfl rfl) (fun _ _ _ _ h => h)) (pv 0) (pa_cons (pe_ix ix_list (pv 1) pe_int (fun _ _ => rfl)) (pa_cons (pe_ix ix_list (pv 1) pe_int (fun _ _ => rfl)) pa_nil))))), ?_⟩)⟩
  · obtain ⟨h, g, i, j, l, rfl, _⟩ := h
    rfl
  · obtain ⟨h, g, i, j, l, rfl, hg, HA, W, TD⟩ := h
    obtain ⟨dx, t, hh, TA⟩ := id HA
    try dsimp only [tSeq, tIfS, tNext, tB, tTest, tEqI, tNeI, tLt, tLe, tGt, tGe, tCmp, t2I, tAsg, tDrop, tRet, gName, tCons, tNil, tBM, tCB, tOp, tCallG, tCallGS, tMethG, tMakeG, tSl, tPart, tNoPart, tLst, tTup, tNot, tNotV, tAnd, tOr, tAndV, tOrV, tIf, tIsN, tNotN, tC, tUn, rU, rI, rI0]
    exact ⟨_, rfl, h, dx, _, rfl, hh, tree_no (by decide +kernel), _, rfl, g, _, _, _, rfl, rfl, SqL.of hg, atI_nat (j := 0) rfl, _, rfl, g, _, _, _, rfl, rfl, SqL.of hg, atI_nat (j := 1) rfl, h, i, j, l, rfl, HA, W, TD⟩
theorem deed_if_wrong (T : Txt K mg CN CR CH CK) (F : GFun K mg "if_wrong" s_if_wrong ["holder", "given"]) (M_if_wrong : MOk P w K mg base (L2.CX P w) 5 CH "if_wrong" ["self", "number", "leaf", "misread"] (spQ3 CN CH CR .ifWrong)) : GOk P w K mg base (L2.CX P w) 6 "if_wrong" ["holder", "given"] (spD3 CN CH CR .ifWrong) := by
  obtain ⟨f, fd, hm, hk, hb, F⟩ := F
  refine ⟨f, fd, hm, hk, hb, F.okX sc_if_wrong (fun vs H Q E h => ?_) (fun cdv A outer s H vs Q E hr h => ⟨_, (pss_one (ps_ret (pe_methG M_if_wrong T.clH (hr.mono (by decide)) (passes_call (takes_of rfl rfl rfl rfl) (fun _ _ _ _ h => h)) (pv 0) (pa_cons (pe_ix ix_list (pv 1) pe_int (fun _ _ => rfl)) (pa_cons (pe_ix ix_list (pv 1) pe_int (fun _ _ => rfl)) (pa_cons (pe_ix ix_list (pv 1) pe_int (fun _ _ => rfl)) pa_nil)))))), ?_⟩)⟩
  · obtain ⟨h, g, i, j, m, l, rfl, _⟩ := h
    rfl
  · obtain ⟨h, g, i, j, m, l, rfl, hg, HA, W, TD⟩ := h
    obtain ⟨dx, t, hh, TA⟩ := id HA
    try dsimp only [tSeq, tIfS, tNext, tB, tTest, tEqI, tNeI, tLt, tLe, tGt, tGe, tCmp, t2I, tAsg, tDrop, tRet, gName, tCons, tNil, tBM, tCB, tOp, tCallG, tCallGS, tMethG, tMakeG, tSl, tPart, tNoPart, tLst, tTup, tNot, tNotV, tAnd, tOr, tAndV, tOrV, tIf, tIsN, tNotN, tC, tUn, rU, rI, rI0]
    exact ⟨_, rfl, h, dx, _, rfl, hh, tree_no (by decide +kernel), _, rfl, g, _, _, _, rfl, rfl, SqL.of hg, atI_nat (j := 0) rfl, _, rfl, g, _, _, _, rfl, rfl, SqL.of hg, atI_nat (j := 1) rfl, _, rfl, g, _, _, _, rfl, rfl, SqL.of hg, atI_nat (j := 2) rfl, h, i, j, m, l, rfl, HA, W, TD⟩
theorem deed_pop (T : Txt K mg CN CR CH CK) (F : GFun K mg "pop" s_pop ["holder", "given"]) (M_pop : MOk P w K mg base (L2.CX P w) 4 CH "pop" ["self"] (spQ0 CN CH CR .pop)) : GOk P w K mg base (L2.CX P w) 5 "pop" ["holder", "given"] (spD0 CN CH CR .pop) := by
  obtain ⟨f, fd, hm, hk, hb, F⟩ := F
  refine ⟨f, fd, hm, hk, hb, F.okX sc_pop (fun vs H Q E h => ?_) (fun cdv A outer s H vs Q E hr h => ⟨_, (pss_one (ps_ret (pe_methG0 M_pop T.clH (hr.mono (by decide)) (passes_call (takes_of rfl rfl rfl rfl) (fun _ _ _ _ h => h)) (pv 0)))), ?_⟩)⟩
  · obtain ⟨h, g, l, rfl, _⟩ := h
    rfl
  · obtain ⟨h, g, l, rfl, HA, W, TD⟩ := h
    obtain ⟨dx, t, hh, TA⟩ := id HA
    try dsimp only [tSeq, tIfS, tNext, tB, tTest, tEqI, tNeI, tLt, tLe, tGt, tGe, tCmp, t2I, tAsg, tDrop, tRet, gName, tCons, tNil, tBM, tCB, tOp, tCallG, tCallGS, tMethG, tMakeG, tSl, tPart, tNoPart, tLst, tTup, tNot, tNotV, tAnd, tOr, tAndV, tOrV, tIf, tIsN, tNotN, tC, tUn, rU, rI, rI0]
    exact ⟨_, rfl, h, dx, _, rfl, hh, tree_no (by decide +kernel), h, l, rfl, HA, W, TD⟩
theorem deed_all_of (T : Txt K mg CN CR CH CK) (F : GFun K mg "all_of" s_all_of ["holder", "given"]) (M_above : MOk P w K mg base (L2.CX P w) 5 CH "above" ["self", "kind", "row"] (spAbove CN CH CR)) : GOk P w K mg base (L2.CX P w) 6 "all_of" ["holder", "given"] (spDup CN CH CR 1) := by
  obtain ⟨f, fd, hm, hk, hb, F⟩ := F
  refine ⟨f, fd, hm, hk, hb, F.okX sc_all_of (fun vs H Q E h => ?_) (fun cdv A outer s H vs Q E hr h => ⟨_, (pss_one (ps_ret (pe_methG M_above T.clH (hr.mono (by decide)) (passes_call (takes_of rfl rfl rfl rfl) (fun _ _ _ _ h => h)) (pv 0) (pa_cons (pe_cI T.ALL) (pa_cons (pv 1) pa_nil))))), ?_⟩)⟩
  · obtain ⟨h, g, row, l, rfl, _⟩ := h
    rfl
  · obtain ⟨h, g, row, l, rfl, hg, h6, HA, W, TD⟩ := h
    obtain ⟨dx, t, hh, TA⟩ := id HA
    try dsimp only [tSeq, tIfS, tNext, tB, tTest, tEqI, tNeI, tLt, tLe, tGt, tGe, tCmp, t2I, tAsg, tDrop, tRet, gName, tCons, tNil, tBM, tCB, tOp, tCallG, tCallGS, tMethG, tMakeG, tSl, tPart, tNoPart, tLst, tTup, tNot, tNotV, tAnd, tOr, tAndV, tOrV, tIf, tIsN, tNotN, tC, tUn, rU, rI, rI0]
    exact ⟨_, rfl, h, dx, _, rfl, hh, tree_no (by decide +kernel), _, rfl, h, g, 1, l, row, rfl, HA, W, hg, h6, by omega, TD⟩
theorem deed_some (T : Txt K mg CN CR CH CK) (F : GFun K mg "some" s_some ["holder", "given"]) (M_above : MOk P w K mg base (L2.CX P w) 5 CH "above" ["self", "kind", "row"] (spAbove CN CH CR)) : GOk P w K mg base (L2.CX P w) 6 "some" ["holder", "given"] (spDup CN CH CR 2) := by
  obtain ⟨f, fd, hm, hk, hb, F⟩ := F
  refine ⟨f, fd, hm, hk, hb, F.okX sc_some (fun vs H Q E h => ?_) (fun cdv A outer s H vs Q E hr h => ⟨_, (pss_one (ps_ret (pe_methG M_above T.clH (hr.mono (by decide)) (passes_call (takes_of rfl rfl rfl rfl) (fun _ _ _ _ h => h)) (pv 0) (pa_cons (pe_cI T.SOME) (pa_cons (pv 1) pa_nil))))), ?_⟩)⟩
  · obtain ⟨h, g, row, l, rfl, _⟩ := h
    rfl
  · obtain ⟨h, g, row, l, rfl, hg, h6, HA, W, TD⟩ := h
    obtain ⟨dx, t, hh, TA⟩ := id HA
    try dsimp only [tSeq, tIfS, tNext, tB, tTest, tEqI, tNeI, tLt, tLe, tGt, tGe, tCmp, t2I, tAsg, tDrop, tRet, gName, tCons, tNil, tBM, tCB, tOp, tCallG, tCallGS, tMethG, tMakeG, tSl, tPart, tNoPart, tLst, tTup, tNot, tNotV, tAnd, tOr, tAndV, tOrV, tIf, tIsN, tNotN, tC, tUn, rU, rI, rI0]
    exact ⟨_, rfl, h, dx, _, rfl, hh, tree_no (by decide +kernel), _, rfl, h, g, 2, l, row, rfl, HA, W, hg, h6, by omega, TD⟩
theorem deed_by_say (T : Txt K mg CN CR CH CK) (F : GFun K mg "by_say" s_by_say ["holder", "given"]) (M_by_say : MOk P w K mg base (L2.CX P w) 6 CH "by_say" ["self", "number", "picks"] (spBy CN CH CR 2)) : GOk P w K mg base (L2.CX P w) 7 "by_say" ["holder", "given"] (spDby CN CH CR 2) := by
  obtain ⟨f, fd, hm, hk, hb, F⟩ := F
  refine ⟨f, fd, hm, hk, hb, F.okX sc_by_say (fun vs H Q E h => ?_) (fun cdv A outer s H vs Q E hr h => ⟨_, (pss_one (ps_ret (pe_methG M_by_say T.clH (hr.mono (by decide)) (passes_call (takes_of rfl rfl rfl rfl) (fun _ _ _ _ h => h)) (pv 0) (pa_cons (pe_ix ix_list (pv 1) pe_int (fun _ _ => rfl)) (pa_cons (pe_slice sl_list (pv 1) (po_some pe_int) po_none) pa_nil))))), ?_⟩)⟩
  · obtain ⟨h, g, i, ps, l, rfl, _⟩ := h
    rfl
  · obtain ⟨h, g, i, ps, l, rfl, hg, HA, W, TD⟩ := h
    obtain ⟨dx, t, hh, TA⟩ := id HA
    try dsimp only [tSeq, tIfS, tNext, tB, tTest, tEqI, tNeI, tLt, tLe, tGt, tGe, tCmp, t2I, tAsg, tDrop, tRet, gName, tCons, tNil, tBM, tCB, tOp, tCallG, tCallGS, tMethG, tMakeG, tSl, tPart, tNoPart, tLst, tTup, tNot, tNotV, tAnd, tOr, tAndV, tOrV, tIf, tIsN, tNotN, tC, tUn, rU, rI, rI0]
    refine ⟨_, rfl, h, dx, _, rfl, hh, tree_no (by decide +kernel), _, rfl, g, _, _, _, rfl, rfl, SqL.of hg, atI_nat (j := 0) rfl, _, rfl, _, rfl, g, _, rfl, SqL.of hg, fun p np => ?_⟩
    have ec : cutV (vN (i :: ps)) (some 1) none = vN ps := (cut_drop (vN (i :: ps)) 1).trans rfl
    generalize e_H1 : upd H p _ = H1; have s1 : Same H H1 := e_H1 ▸ same_new np; have g1 := e_H1 ▸ (upd_same : upd H p _ p = some _)
    rw [ec] at g1
    refine ⟨h, p, i, l, ps, rfl, HA.same s1, W, g1, ?_⟩
    exact ⟨fun H' q l' a e W' A' b' hq hz => TD.ok H' q l' a e W' A' ((same_but s1 h).trans b') hq hz, fun n e => (TD.no n e).late s1⟩
theorem deed_by_doubt (T : Txt K mg CN CR CH CK) (F : GFun K mg "by_doubt" s_by_doubt ["holder", "given"]) (M_by_doubt : MOk P w K mg base (L2.CX P w) 6 CH "by_doubt" ["self", "number", "picks"] (spBy CN CH CR 1)) : GOk P w K mg base (L2.CX P w) 7 "by_doubt" ["holder", "given"] (spDby CN CH CR 1) := by
  obtain ⟨f, fd, hm, hk, hb, F⟩ := F
  refine ⟨f, fd, hm, hk, hb, F.okX sc_by_doubt (fun vs H Q E h => ?_) (fun cdv A outer s H vs Q E hr h => ⟨_, (pss_one (ps_ret (pe_methG M_by_doubt T.clH (hr.mono (by decide)) (passes_call (takes_of rfl rfl rfl rfl) (fun _ _ _ _ h => h)) (pv 0) (pa_cons (pe_ix ix_list (pv 1) pe_int (fun _ _ => rfl)) (pa_cons (pe_slice sl_list (pv 1) (po_some pe_int) po_none) pa_nil))))), ?_⟩)⟩
  · obtain ⟨h, g, i, ps, l, rfl, _⟩ := h
    rfl
  · obtain ⟨h, g, i, ps, l, rfl, hg, HA, W, TD⟩ := h
    obtain ⟨dx, t, hh, TA⟩ := id HA
    try dsimp only [tSeq, tIfS, tNext, tB, tTest, tEqI, tNeI, tLt, tLe, tGt, tGe, tCmp, t2I, tAsg, tDrop, tRet, gName, tCons, tNil, tBM, tCB, tOp, tCallG, tCallGS, tMethG, tMakeG, tSl, tPart, tNoPart, tLst, tTup, tNot, tNotV, tAnd, tOr, tAndV, tOrV, tIf, tIsN, tNotN, tC, tUn, rU, rI, rI0]
    refine ⟨_, rfl, h, dx, _, rfl, hh, tree_no (by decide +kernel), _, rfl, g, _, _, _, rfl, rfl, SqL.of hg, atI_nat (j := 0) rfl, _, rfl, _, rfl, g, _, rfl, SqL.of hg, fun p np => ?_⟩
    have ec : cutV (vN (i :: ps)) (some 1) none = vN ps := (cut_drop (vN (i :: ps)) 1).trans rfl
    generalize e_H1 : upd H p _ = H1; have s1 : Same H H1 := e_H1 ▸ same_new np; have g1 := e_H1 ▸ (upd_same : upd H p _ p = some _)
    rw [ec] at g1
    refine ⟨h, p, i, l, ps, rfl, HA.same s1, W, g1, ?_⟩
    exact ⟨fun H' q l' a e W' A' b' hq hz => TD.ok H' q l' a e W' A' ((same_but s1 h).trans b') hq hz, fun n e => (TD.no n e).late s1⟩
end
end Dis
end
section
set_option linter.all false
set_option maxRecDepth 100000
set_option maxHeartbeats 4000000
namespace Dis
open PySem PySem.Spec PyProof.Rows L2
open Kp365 (Node)
/-- the k-th deed in the table at dd -/
def Deed (K : PySem.W.Frag) (mg : Str → Option Value) (dd : Addr) (k : Int) (x : Str) : Prop := ∃ f : Addr, mg x = some (.ref f) ∧ DInt K dd k (.ref f)
structure DTxt (K : PySem.W.Frag) (mg : Str → Option Value) (dd : Addr) : Prop where
  d1 : Deed K mg dd 1 "leaf"
  d2 : Deed K mg dd 2 "all_of"
  d3 : Deed K mg dd 3 "some"
  d4 : Deed K mg dd 4 "pop"
  d5 : Deed K mg dd 5 "node_is"
  d6 : Deed K mg dd 6 "flip"
  d7 : Deed K mg dd 7 "wrong"
  d8 : Deed K mg dd 8 "is_true"
  d9 : Deed K mg dd 9 "held"
  d10 : Deed K mg dd 10 "right"
  d11 : Deed K mg dd 11 "pick"
  d12 : Deed K mg dd 12 "way"
  d13 : Deed K mg dd 13 "by_say"
  d14 : Deed K mg dd 14 "by_doubt"
  d15 : Deed K mg dd 15 "proof"
  d16 : Deed K mg dd 16 "leaves"
  d17 : Deed K mg dd 17 "matter"
  d18 : Deed K mg dd 18 "if_wrong"
  d19 : Deed K mg dd 19 "if_flip"
  d20 : Deed K mg dd 20 "best"
  d21 : Deed K mg dd 21 "depth"
structure Deeds (P : Program) (w : World) (K : PySem.W.Frag) (mg : Str → Option Value) (base : Heap) (CN CH CR : Addr) : Prop where
  leaf : GOk P w K mg base (L2.CX P w) 6 "leaf" ["holder", "given"] (spD2 CN CH CR .leaf)
  all_of : GOk P w K mg base (L2.CX P w) 6 "all_of" ["holder", "given"] (spDup CN CH CR 1)
  some : GOk P w K mg base (L2.CX P w) 6 "some" ["holder", "given"] (spDup CN CH CR 2)
  pop : GOk P w K mg base (L2.CX P w) 5 "pop" ["holder", "given"] (spD0 CN CH CR .pop)
  node_is : GOk P w K mg base (L2.CX P w) 6 "node_is" ["holder", "given"] (spD1 CN CH CR .nodeIs)
  flip : GOk P w K mg base (L2.CX P w) 6 "flip" ["holder", "given"] (spD1 CN CH CR .flip)
  wrong : GOk P w K mg base (L2.CX P w) 6 "wrong" ["holder", "given"] (spD2 CN CH CR .wrong)
  is_true : GOk P w K mg base (L2.CX P w) 6 "is_true" ["holder", "given"] (spD1 CN CH CR .true_)
  held : GOk P w K mg base (L2.CX P w) 6 "held" ["holder", "given"] (spD1 CN CH CR .held)
  right : GOk P w K mg base (L2.CX P w) 6 "right" ["holder", "given"] (spD1 CN CH CR .right)
  pick : GOk P w K mg base (L2.CX P w) 6 "pick" ["holder", "given"] (spD1 CN CH CR .pick)
  way : GOk P w K mg base (L2.CX P w) 6 "way" ["holder", "given"] (spD1 CN CH CR .way)
  by_say : GOk P w K mg base (L2.CX P w) 7 "by_say" ["holder", "given"] (spDby CN CH CR 2)
  by_doubt : GOk P w K mg base (L2.CX P w) 7 "by_doubt" ["holder", "given"] (spDby CN CH CR 1)
  proof : GOk P w K mg base (L2.CX P w) 6 "proof" ["holder", "given"] (spD1 CN CH CR .proof)
  leaves : GOk P w K mg base (L2.CX P w) 6 "leaves" ["holder", "given"] (spD1 CN CH CR .leaves)
  matter : GOk P w K mg base (L2.CX P w) 7 "matter" ["holder", "given"] (spD1 CN CH CR .matter)
  if_wrong : GOk P w K mg base (L2.CX P w) 6 "if_wrong" ["holder", "given"] (spD3 CN CH CR .ifWrong)
  if_flip : GOk P w K mg base (L2.CX P w) 6 "if_flip" ["holder", "given"] (spD2 CN CH CR .ifFlip)
  best : GOk P w K mg base (L2.CX P w) 7 "best" ["holder", "given"] (spD1 CN CH CR .best)
  depth : GOk P w K mg base (L2.CX P w) 6 "depth" ["holder", "given"] (spD1 CN CH CR .depth)
section
variable {P : Program} {w : World} {K : PySem.W.Frag} {mg : Str → Option Value} {base : Heap} {CN CR CH CK dd : Addr}
theorem held_deed {k : Int} {x : Str} {ps : List Str} {lv' : Nat} {sp : Sp} (D : Deed K mg dd k x) (G : GOk P w K mg base (L2.CX P w) lv' x ps sp) (h : lv' ≤ 7) : ∃ f, DInt K dd k (.ref f) ∧ HeldX P w K mg base 7 f sp := by
  obtain ⟨f, hf, hd⟩ := D
  obtain ⟨f2, fd, hm, hk, hb, F⟩ := G
  rw [hf] at hm
  cases hm
  exact ⟨f, hd, ⟨fd, ps, F.mono h, hk, hb⟩⟩
/-- the deed that the table tells of a call -/
theorem dispatch (D : DTxt K mg dd) (G : Deeds P w K mg base CN CH CR) {p : Int} {args : List Int} {c : Kp365.Call} (S : Shape p args c) (h0 : p ≠ 0) : ∃ (f : Addr) (sp : Sp), DInt K dd p (.ref f) ∧ HeldX P w K mg base 7 f sp ∧
    ∀ (H : Hp) (Q : VK) (E : XK) (h g : Addr) (l : List Node), H g = some (.lst (nums args)) → HolAt CN CH H h l → WF l → Told CN CH CR H h l c Q E → sp [.ref h, .ref g] H Q E := by
  have ez : ∀ ks : List Nat, nums (zs ks) = vN ks := fun ks => (vN_int ks).symm
  cases S with
  | begin_ => exact absurd rfl h0
  | leaf a b =>
    obtain ⟨f, d, hx⟩ := held_deed D.d1 G.leaf (by decide)
    exact ⟨f, _, d, hx, fun H Q E h g l hg HA W TD => ⟨h, g, a, b, l, rfl, by rw [← ez]; exact hg, HA, W, TD⟩⟩
  | all_ row hr =>
    obtain ⟨f, d, hx⟩ := held_deed D.d2 G.all_of (by decide)
    exact ⟨f, _, d, hx, fun H Q E h g l hg HA W TD => ⟨h, g, row, l, rfl, by rw [← ez]; exact hg, hr, HA, W, TD⟩⟩
  | some_ row hr =>
    obtain ⟨f, d, hx⟩ := held_deed D.d3 G.some (by decide)
    exact ⟨f, _, d, hx, fun H Q E h g l hg HA W TD => ⟨h, g, row, l, rfl, by rw [← ez]; exact hg, hr, HA, W, TD⟩⟩
  | pop =>
    obtain ⟨f, d, hx⟩ := held_deed D.d4 G.pop (by decide)
    exact ⟨f, _, d, hx, fun H Q E h g l hg HA W TD => ⟨h, g, l, rfl, HA, W, TD⟩⟩
  | nodeIs i =>
    obtain ⟨f, d, hx⟩ := held_deed D.d5 G.node_is (by decide)
    exact ⟨f, _, d, hx, fun H Q E h g l hg HA W TD => ⟨h, g, i, l, rfl, by rw [← ez]; exact hg, HA, W, TD⟩⟩
  | flip i =>
    obtain ⟨f, d, hx⟩ := held_deed D.d6 G.flip (by decide)
    exact ⟨f, _, d, hx, fun H Q E h g l hg HA W TD => ⟨h, g, i, l, rfl, by rw [← ez]; exact hg, HA, W, TD⟩⟩
  | wrong i j =>
    obtain ⟨f, d, hx⟩ := held_deed D.d7 G.wrong (by decide)
    exact ⟨f, _, d, hx, fun H Q E h g l hg HA W TD => ⟨h, g, i, j, l, rfl, by rw [← ez]; exact hg, HA, W, TD⟩⟩
  | true_ i =>
    obtain ⟨f, d, hx⟩ := held_deed D.d8 G.is_true (by decide)
    exact ⟨f, _, d, hx, fun H Q E h g l hg HA W TD => ⟨h, g, i, l, rfl, by rw [← ez]; exact hg, HA, W, TD⟩⟩
  | held i =>
    obtain ⟨f, d, hx⟩ := held_deed D.d9 G.held (by decide)
    exact ⟨f, _, d, hx, fun H Q E h g l hg HA W TD => ⟨h, g, i, l, rfl, by rw [← ez]; exact hg, HA, W, TD⟩⟩
  | right i =>
    obtain ⟨f, d, hx⟩ := held_deed D.d10 G.right (by decide)
    exact ⟨f, _, d, hx, fun H Q E h g l hg HA W TD => ⟨h, g, i, l, rfl, by rw [← ez]; exact hg, HA, W, TD⟩⟩
  | pick i =>
    obtain ⟨f, d, hx⟩ := held_deed D.d11 G.pick (by decide)
    exact ⟨f, _, d, hx, fun H Q E h g l hg HA W TD => ⟨h, g, i, l, rfl, by rw [← ez]; exact hg, HA, W, TD⟩⟩
  | way i =>
    obtain ⟨f, d, hx⟩ := held_deed D.d12 G.way (by decide)
    exact ⟨f, _, d, hx, fun H Q E h g l hg HA W TD => ⟨h, g, i, l, rfl, by rw [← ez]; exact hg, HA, W, TD⟩⟩
  | bySay i ps =>
    obtain ⟨f, d, hx⟩ := held_deed D.d13 G.by_say (by decide)
    exact ⟨f, _, d, hx, fun H Q E h g l hg HA W TD => ⟨h, g, i, ps, l, rfl, by rw [← ez]; exact hg, HA, W, TD⟩⟩
  | byDoubt i ps =>
    obtain ⟨f, d, hx⟩ := held_deed D.d14 G.by_doubt (by decide)
    exact ⟨f, _, d, hx, fun H Q E h g l hg HA W TD => ⟨h, g, i, ps, l, rfl, by rw [← ez]; exact hg, HA, W, TD⟩⟩
  | proof i =>
    obtain ⟨f, d, hx⟩ := held_deed D.d15 G.proof (by decide)
    exact ⟨f, _, d, hx, fun H Q E h g l hg HA W TD => ⟨h, g, i, l, rfl, by rw [← ez]; exact hg, HA, W, TD⟩⟩
  | leaves i =>
    obtain ⟨f, d, hx⟩ := held_deed D.d16 G.leaves (by decide)
    exact ⟨f, _, d, hx, fun H Q E h g l hg HA W TD => ⟨h, g, i, l, rfl, by rw [← ez]; exact hg, HA, W, TD⟩⟩
  | matter i =>
    obtain ⟨f, d, hx⟩ := held_deed D.d17 G.matter (by decide)
    exact ⟨f, _, d, hx, fun H Q E h g l hg HA W TD => ⟨h, g, i, l, rfl, by rw [← ez]; exact hg, HA, W, TD⟩⟩
  | ifWrong i j m =>
    obtain ⟨f, d, hx⟩ := held_deed D.d18 G.if_wrong (by decide)
    exact ⟨f, _, d, hx, fun H Q E h g l hg HA W TD => ⟨h, g, i, j, m, l, rfl, by rw [← ez]; exact hg, HA, W, TD⟩⟩
  | ifFlip i j =>
    obtain ⟨f, d, hx⟩ := held_deed D.d19 G.if_flip (by decide)
    exact ⟨f, _, d, hx, fun H Q E h g l hg HA W TD => ⟨h, g, i, j, l, rfl, by rw [← ez]; exact hg, HA, W, TD⟩⟩
  | best i =>
    obtain ⟨f, d, hx⟩ := held_deed D.d20 G.best (by decide)
    exact ⟨f, _, d, hx, fun H Q E h g l hg HA W TD => ⟨h, g, i, l, rfl, by rw [← ez]; exact hg, HA, W, TD⟩⟩
  | depth i =>
    obtain ⟨f, d, hx⟩ := held_deed D.d21 G.depth (by decide)
    exact ⟨f, _, d, hx, fun H Q E h g l hg HA W TD => ⟨h, g, i, l, rfl, by rw [← ez]; exact hg, HA, W, TD⟩⟩
end
/-! ### the keeper -/
/-- a call of what the slot holds: the promise is found with the address -/
def tCallLH (P : Program) (w : World) (K : PySem.W.Frag) (mg : Str → Option Value) (base : Heap) (k i : Nat) (E : L2.St → XK) (t : TA) : TE := fun σ H Q => ∃ f sp, σ[i]? = some (some (.ref f)) ∧ HeldX P w K mg base k f sp ∧ t σ H fun vs H1 => sp vs H1 Q (E σ)
theorem pe_callLH {X : Cx} {k i : Nat} {x : Str} {p pos : Pos} {e : Expr} {es : List Expr} {t : TA} {E : L2.St → XK} (hr : Room k X.A) (hN : X.N[i]? = some x) (hv : Vis X.env.scope x) (hx : ∀ σ, PassesAt (L2.CX X.prog X.w) X σ (E σ)) (ha : PA X (e :: es) t)
    (hdb : (x == ("__debug__" : Str)) = false := by decide) (hcd : (x == ("__classdict__" : Str)) = false := by decide)
    (he : starEach (e :: es) X.env = (false, eval e X.env) :: starEach es X.env := by rfl) (hpl : (backTo pos (starEach es X.env)).any (·.1) = false := by rfl) : PE X (.Call (.Name x p) (e :: es) [] pos) (tCallLH X.prog X.w X.K X.mg X.base k i E t) := by
  refine ⟨fun pins s σ H Q I h => ?_⟩
  obtain ⟨f, sp, hs, A, ht⟩ := h
  obtain ⟨fd, ps, F, hk, hb⟩ := A.ex
  refine wpAny_Call_Name_kw (thn ((pe_var (pos := p) hN hv hdb hcd).run pins s σ H (fun v H1 => v = .ref f ∧ H1 = H) I ⟨.ref f, hs, rfl, rfl⟩) fun u s1 ⟨v, H1, I1, r1, q1⟩ => ?_)
  obtain ⟨rfl, rfl⟩ := q1
  cases r1
  refine PySem.W.callWith_K (h₀ := X.base) I.ok.mod.kin hk (thn (ha.run pos pins s1 σ _ _ I1 ht) fun us s2 ⟨vs, H2, I2, r, q⟩ => ⟨I2.kIn, ?_⟩) he hpl
  exact run_fnS F hr hb (hx σ) I2 r q
def t_try (P : Program) (w : World) (K : PySem.W.Frag) (mg : Str → Option Value) (base : Heap) (CH CR dd : Addr) (W : WX) : TS :=
  tSeq (tIfS (tB (tEqI (tVar 1) (tC (.int 0)))) (tSeq (sFld K (tVar 0) (tMakeG CH (spHolInit CH) E0 tNil) "holder") (tRet (tLst (tCons (tC (.int 0)) tNil)))) tNext)
    (tSeq (tDrop (tCallGS (spNeed CR) (WE W) (tCons (tNotN (tFld K (tVar 0) "holder")) (tCons (tC (.int (-11))) tNil))))
    (tSeq (tAsg (tOp (rIxI K) (tC (.ref dd)) (tVar 1)) (gName 3))
    (tRet (tCallLH P w K mg base 7 3 (WE W) (tCons (tFld K (tVar 0) "holder") (tCons (tVar 2) tNil))))))
def t_suite (CR : Addr) : Addr → Value → Option Addr → TS := fun a cls d => tRet (tLst (tCons (tXf a cls d CR "number" (tVar 4)) tNil))
/-- the keeper at k, and what it keeps -/
def KeepAt (CN CH CK : Addr) (H : Hp) (k : Addr) (st : Option (List Node)) : Prop :=
  ∃ dx, (st = none ∧ H k = some (.ins CK dx [("holder", .non)])) ∨ ∃ (l : List Node) (h : Addr), st = some l ∧ H k = some (.ins CK dx [("holder", .ref h)]) ∧ HolAt CN CH H h l ∧ WF l
/-- all but instances stands as it was -/
def Lists (H H' : Hp) : Prop := ∀ b o, H b = some o → (∀ C dx fs, o ≠ .ins C dx fs) → H' b = some o
theorem Same.lists {H H' : Hp} (s : Same H H') : Lists H H' := fun b o e _ => s b o e
theorem Lists.trans {H H1 H2 : Hp} (a : Lists H H1) (b : Lists H1 H2) : Lists H H2 := fun c o e ne => b c o (a c o e ne) ne
abbrev dk (st : Option (List Node)) : Kp365.State := st.map Kp365.Desk.mk
def spKeepInit (CK : Addr) : Sp := fun vs H Q _ => ∃ p dx : Addr, vs = [.ref p] ∧ H p = some (.ins CK dx []) ∧ Q .non (upd H p (.ins CK dx [("holder", .non)]))
def spAnswer (CN CH CK : Addr) : Sp := fun vs H Q _ => ∃ (k g : Addr) (p : Int) (args : List Int) (st : Option (List Node)), vs = [.ref k, .int p, .ref g] ∧ H g = some (.lst (nums args)) ∧ KeepAt CN CH CK H k st ∧ Kp365Neutral.asked1 [p :: args] = true ∧
  ∀ (H' : Hp) (q : Addr) (st' : Option (List Node)) (a : List Int), Kp365Neutral.step (dk st) [p :: args] = (dk st', a) → KeepAt CN CH CK H' k st' → Lists H H' → H' q = some (.lst (nums a)) → a.length ≤ 22 → Q (.ref q) H'
theorem hold_ne {CH CK dx dx' k h : Addr} {v v' : V} {H : Hp} (hk : H k = some (.ins CK dx [("holder", v)])) (hh : H h = some (.ins CH dx' [("tree", v')])) : h ≠ k := fun z => by
  rw [z, hk] at hh
  have := Option.some.inj hh
  injection this with e1 e2 e3
  have q := congrArg (List.lookup ("tree" : Str)) e3
  rw [show List.lookup ("tree" : Str) [(("tree" : Str), v')] = some v' from lk_here, show List.lookup ("tree" : Str) [(("holder" : Str), v)] = none from (lk_past (by decide +kernel)).trans rfl] at q
  cases q
theorem step_none {p : Int} {args : List Int} {c : Kp365.Call} (S : Shape p args c) (h0 : p ≠ 0) : Kp365.step none c = (none, Kp365.say (-11)) := by
  cases S <;> first | rfl | exact absurd rfl h0
theorem lists_st {CK dx k : Addr} {v : V} {H H' : Hp} {w' : V} (hk : H k = some (.ins CK dx [("holder", v)])) (b : ∀ c o, H c = some o → c ≠ k → H' c = some o) : Lists H H' := fun c o e ne => by
  refine b c o e fun z => ?_
  rw [z, hk] at e
  exact ne _ _ _ (Option.some.inj e).symm
abbrev s_Keeper_init : Stmt := inClass (top 65) 0
theorem sc_Keeper_init : FnScope ["self"] ["self"] (defScope s_Keeper_init) := ⟨rfl, rfl, rfl, by decide +kernel, rfl, by decide +kernel, by decide +kernel⟩
abbrev s_Keeper_answer : Stmt := inClass (top 65) 1
theorem sc_Keeper_answer : FnScope ["self", "call", "given", "deed", "e"] ["self", "call", "given"] (defScope s_Keeper_answer) := ⟨rfl, rfl, rfl, by decide +kernel, rfl, by decide +kernel, by decide +kernel⟩
section
variable {P : Program} {w : World} {K : PySem.W.Frag} {mg : Str → Option Value} {base : Heap} {CN CR CH CK dd : Addr}
theorem ok_Keeper (T : Txt K mg CN CR CH CK) (F : CFun K mg CK "Keeper" s_Keeper_init ["self"]) : COk P w K mg base CX0 1 "Keeper" CK ["self"] (spKeepInit CK) := by
  obtain ⟨f, fd, hm, M, hb, F⟩ := F
  refine ⟨f, fd, hm, M, hb, F.ok sc_Keeper_init (fun vs H Q E h => ?_) (fun cdv A outer s H vs Q E hr h => ⟨_, (pss_one (ps_fld (pv 0) pe_non rfl)), ?_⟩)⟩
  · obtain ⟨p, dx, rfl, _⟩ := h
    rfl
  · obtain ⟨p, dx, rfl, hp, q⟩ := h
    try dsimp only [tSeq, tIfS, tNext, tB, tTest, tEqI, tNeI, tLt, tLe, tGt, tGe, tCmp, t2I, tAsg, tDrop, tRet, gName, tCons, tNil, tBM, tCB, tOp, tCallG, tCallGS, tMethG, tMakeG, tSl, tPart, tNoPart, tLst, tTup, tNot, tNotV, tAnd, tOr, tAndV, tOrV, tIf, tIsN, tNotN, tC, tUn, rU, rI, rI0]
    exact ⟨_, rfl, p, CK, dx, [], rfl, hp, T.clK, T.nHolder, (by show 0 < 1000; decide), q⟩
theorem ok_answer (T : Txt K mg CN CR CH CK) (hDeeds : mg "DEEDS" = some (.ref dd)) (D : DTxt K mg dd) (GD : Deeds P w K mg base CN CH CR) (F : MFun K CK "Keeper" "answer" s_Keeper_answer ["self", "call", "given"]) (G_need : GOk P w K mg base (L2.CX P w) 3 "need" ["is_so", "number"] (spNeed CR))
    (G_Holder : COk P w K mg base CX0 1 "Holder" CH ["self"] (spHolInit CH)) : MOk P w K mg base CX0 8 CK "answer" ["self", "call", "given"] (spAnswer CN CH CK) := by
  obtain ⟨f, fd, hm, hb, F⟩ := F
  refine ⟨f, fd, hm, hb, F.ok sc_Keeper_answer (fun vs H Q E h => ?_) (fun cdv A outer s H vs Q E hr h => ⟨_, (pss_one (ps_try_as (i := 4) (tb := fun W => t_try P w K mg base CH CR dd W) (ts := t_suite CR) (Wout := fun _ _ _ _ => False) rfl rfl sc_Keeper_answer.nd rfl rfl ⟨rfl, by decide, .inl T.gR⟩ takes0 (fun W pn xe tk _ => (pss_cons (ps_if (pt_cmp (pc_eqI (pv 1) (pe_cI T.BEGIN)) (by rfl)) (pss_cons (ps_fld (pv 0) (pe_makeG0 G_Holder (hr.mono (by decide)) rfl pass0) rfl) (pss_one (ps_ret (pe_lst (pa_cons pe_int pa_nil))))) pss_nil) (pss_cons (ps_expr (pe_callGS G_need (hr.mono (by decide)) rfl (fun σ => passAt tk σ) (by exact (pa_cons (pe_cmp (pc_notN (pe_fld (pv 0) rfl)) (by rfl)) (pa_cons (pe_cI T.NOTBEGUN) pa_nil))))) (pss_cons (ps_set (i := 3) sc_Keeper_answer.nd rfl (Or.inl rfl) (pe_ix ix_dint (pe_glob rfl hDeeds rfl) (pv 1) (fun _ _ => rfl))) (pss_one (ps_ret (pe_callLH (k := 7) (i := 3) (hr.mono (by decide)) rfl (Or.inl rfl) (fun σ => passAt tk σ) (by exact (pa_cons (pe_fld (pv 0) rfl) (pa_cons (pv 2) pa_nil)))))))))) (fun a oe cls d pn hz hf => (pss_one (ps_ret (pe_lst (pa_cons (pe_xf T.xR T.nNumber hz hf (pv 4)) pa_nil))))))), ?_⟩)⟩
  · obtain ⟨k, g, p, args, st, rfl, _⟩ := h
    rfl
  · obtain ⟨k, g, p, args, st, rfl, hg, ⟨dx, KA⟩, as1, q⟩ := h
    obtain ⟨c, hc, S⟩ := shape_of p args as1
    -- what the keeper holds
    obtain ⟨v, hk⟩ : ∃ v, H k = some (.ins CK dx [("holder", v)]) := by
      rcases KA with ⟨_, e⟩ | ⟨l, h, _, e, _⟩
      · exact ⟨_, e⟩
      · exact ⟨_, e⟩
    have look : (fun f : Str => ([(("holder" : Str), v)] : List (Str × V)).lookup f) "holder" = some v := lk_here
    refine ⟨_, rfl, _, _, rfl, rfl, _, rfl, ?_⟩
    refine ite2 (fun c0 => ?_) (fun c0 => ?_)
    · -- begin
      have p0 : p = 0 := of_decide_eq_true c0
      subst p0
      intro x dn nx nd ne
      refine ⟨x, dn, rfl, upd_same, fun t nt => ⟨rfl, ?_⟩⟩
      have kx : k ≠ x := ne_of_none hk nx
      have kn : k ≠ dn := ne_of_none hk nd
      have s0 : Same H (upd (upd H dn (.own x)) x (.ins CH dn [])) := same_late (same_new nd) nx
      have s1 := s0.trans (same_new (o := .lst []) nt)
      have tx : t ≠ x := fun z => by
        rw [z, upd_same] at nt
        cases nt
      have s2 : Same H (upd (upd (upd (upd H dn (.own x)) x (.ins CH dn [])) t (.lst [])) x (.ins CH dn [("tree", .ref t)])) := same_late s1 nx
      have gx : (upd (upd (upd (upd H dn (.own x)) x (.ins CH dn [])) t (.lst [])) x (.ins CH dn [("tree", .ref t)])) x = some (.ins CH dn [("tree", .ref t)]) := upd_same
      have gt : (upd (upd (upd (upd H dn (.own x)) x (.ins CH dn [])) t (.lst [])) x (.ins CH dn [("tree", .ref t)])) t = some (.lst []) := by rw [upd_ne tx, upd_same]
      generalize (upd (upd (upd (upd H dn (.own x)) x (.ins CH dn [])) t (.lst [])) x (.ins CH dn [("tree", .ref t)])) = H2 at s2 gx gt
      have hk2 := s2 _ _ hk
      refine ⟨_, rfl, k, CK, dx, _, rfl, hk2, T.clK, T.nHolder, (by show 1 < 1000; decide), small (by show 1 ≤ 100000; decide), fun pa na => ?_⟩
      have ep : putF ("holder" : Str) (V.ref x) [(("holder" : Str), v)] = [(("holder" : Str), V.ref x)] := put_here
      rw [ep] at na ⊢
      have b3 : ∀ c o, H2 c = some o → c ≠ k → (upd H2 k (.ins CK dx [("holder", .ref x)])) c = some o := fun c o e ne => by rw [upd_ne ne]; exact e
      have g3 : (upd H2 k (.ins CK dx [("holder", .ref x)])) k = some (.ins CK dx [("holder", .ref x)]) := upd_same
      generalize (upd H2 k (.ins CK dx [("holder", .ref x)])) = H3 at na b3 g3
      generalize e_H4 : upd H3 pa _ = H4; have s4 : Same H3 H4 := e_H4 ▸ same_new na; have g4 := e_H4 ▸ (upd_same : upd H3 pa _ pa = some _)
      have tk : t ≠ k := fun z => by
        rw [z, hk2] at gt
        cases gt
      refine q H4 pa (some []) [0] ?_ ⟨dx, .inr ⟨[], x, rfl, s4 _ _ g3, ⟨dn, t, s4 _ _ (b3 _ _ gx (Ne.symm kx)), [], s4 _ _ (b3 _ _ gt tk), rfl, fun i a n ha => by simp at ha⟩, WF.nil⟩⟩ ?_ g4 (by decide)
      · cases S
        rfl
      · refine (Same.lists s2).trans (Lists.trans ?_ (Same.lists s4))
        exact lists_st (w' := .non) hk2 b3
    · have p0 : p ≠ 0 := fun z => c0 (decide_eq_true z)
      refine ⟨_, rfl, k, CK, dx, _, _, rfl, hk, T.clK, T.nHolder, lk_here, ?_⟩
      -- what a refusal leads to
      have refuse : ∀ (H0 : Hp) (σ : L2.St) (n : Int) (st' : Option (List Node)), Lists H H0 → KeepAt CN CH CK H0 k st' → σ[4]? = some none ∨ (∃ y, σ[4]? = some (some y)) → Kp365Neutral.step (dk st) [p :: args] = (dk st', [n]) → ∀ D : Ends, D.rt = Q →
          Ref CR H0 n (WE (wAs K (.ref CR) 4 (t_suite CR) (fun _ _ _ _ => False) D) σ) := by
        intro H0 σ n st' L0 KA0 h4 hst D hD H1 d s1 hd
        refine ⟨true, T.teR, fun _ a na => ?_, fun z => Bool.noConfusion z⟩
        have h5 : (σ.set 4 (some (V.ref a)))[4]? = some (some (V.ref a)) := by
          refine List.getElem?_set_self ?_
          rcases h4 with e | ⟨y, e⟩
          · exact lt_of_get e
          · exact lt_of_get e
        refine ⟨_, h5, rfl, rfl, d, _, _, rfl, hd, lk_here, small (by show 1 ≤ 100000; decide), fun q2 n2 => ?_⟩
        generalize e_H2 : upd H1 q2 _ = H2; have s2 : Same H1 H2 := e_H2 ▸ same_new n2; have g2 := e_H2 ▸ (upd_same : upd H1 q2 _ q2 = some _)
        show D.rt (.ref q2) H2
        rw [hD]
        obtain ⟨dx', KA'⟩ := KA0
        have sH := s1.trans s2
        refine q H2 q2 st' [n] hst ⟨dx', ?_⟩ (L0.trans (Same.lists sH)) g2 (by show 1 ≤ 22; decide)
        rcases KA' with ⟨e1, e2⟩ | ⟨l, h, e1, e2, e3, e4⟩
        · exact .inl ⟨e1, sH _ _ e2⟩
        · exact .inr ⟨l, h, e1, sH _ _ e2, e3.same sH, e4⟩
      rcases KA with ⟨e1, e2⟩ | ⟨l, h, e1, e2, HA, W⟩
      · -- nothing is begun
        subst e1
        rw [hk] at e2
        have ev : v = .non := by
          have := Option.some.inj e2
          injection this with _ _ e3
          have q3 := congrArg (List.lookup ("holder" : Str)) e3
          rw [show List.lookup ("holder" : Str) [(("holder" : Str), v)] = some v from lk_here, show List.lookup ("holder" : Str) [(("holder" : Str), V.non)] = some V.non from lk_here] at q3
          exact Option.some.inj q3
        subst ev
        refine ⟨_, _, rfl, (fun z => by cases z), fun _ => ?_⟩
        refine refuse H _ (-11) none (fun b o e _ => e) ⟨dx, .inl ⟨rfl, hk⟩⟩ (.inl rfl) ?_ _ rfl
        rw [step_of hc]
        show ((Kp365.step none c).1, (Kp365.step none c).2.num :: (Kp365.step none c).2.nums) = _
        rw [step_none S p0]
        rfl
      · subst e1
        rw [hk] at e2
        have ev : v = .ref h := by
          have := Option.some.inj e2
          injection this with _ _ e3
          have q3 := congrArg (List.lookup ("holder" : Str)) e3
          rw [show List.lookup ("holder" : Str) [(("holder" : Str), v)] = some v from lk_here, show List.lookup ("holder" : Str) [(("holder" : Str), V.ref h)] = some (V.ref h) from lk_here] at q3
          exact Option.some.inj q3
        subst ev
        obtain ⟨dh, t, hh, _⟩ := id HA
        have hne := hold_ne hk hh
        obtain ⟨fa, sp, di, hx, hsp⟩ := dispatch (P := P) (w := w) (base := base) D GD S p0
        refine ⟨_, _, rfl, fun _ => ?_, fun z => by cases z⟩
        refine ⟨_, rfl, dd, p, _, rfl, rfl, di, ?_⟩
        refine ⟨fa, sp, rfl, hx, _, rfl, k, CK, dx, _, _, rfl, hk, T.clK, T.nHolder, lk_here, _, rfl, ?_⟩
        refine hsp H _ _ h g l hg HA W ⟨fun H' pr l' a e W' A' b' hp' hz => ?_, fun n e => ?_⟩
        · refine q H' pr (some l') (a.num :: a.nums) ?_ ⟨dx, .inr ⟨l', h, rfl, b' _ _ hk (Ne.symm hne), A', W'⟩⟩ ?_ hp' (by show a.nums.length + 1 ≤ 22; omega)
          · rw [step_of hc]
            show ((Kp365.step (some ⟨l⟩) c).1, (Kp365.step (some ⟨l⟩) c).2.num :: (Kp365.step (some ⟨l⟩) c).2.nums) = _
            rw [e]
            rfl
          · intro b o e ne'
            refine b' b o e fun z => ?_
            rw [z, hh] at e
            exact ne' _ _ _ (Option.some.inj e).symm
        · refine refuse H _ n (some l) (fun b o e _ => e) ⟨dx, .inr ⟨l, h, rfl, hk, HA, W⟩⟩ (.inl rfl) ?_ _ rfl
          rw [step_of hc]
          show ((Kp365.step (some ⟨l⟩) c).1, (Kp365.step (some ⟨l⟩) c).2.num :: (Kp365.step (some ⟨l⟩) c).2.nums) = _
          rw [e]
          rfl
end
end Dis
end
section
set_option linter.all false
set_option maxRecDepth 100000
set_option maxHeartbeats 4000000
namespace Dis
open PySem PySem.Spec PyProof.Rows L2
open Kp365 (Node)
theorem KeepAt.same {CN CH CK k : Addr} {H H' : Hp} {st : Option (List Node)} (A : KeepAt CN CH CK H k st) (s : Same H H') : KeepAt CN CH CK H' k st := by
  obtain ⟨dx, A⟩ := A
  refine ⟨dx, ?_⟩
  rcases A with ⟨e1, e2⟩ | ⟨l, h, e1, e2, e3, e4⟩
  · exact .inl ⟨e1, s _ _ e2⟩
  · exact .inr ⟨l, h, e1, s _ _ e2, e3.same s, e4⟩
/-- what is locked is no part of what the keeper keeps -/
theorem KeepAt.drop {CN CH CK k f : Addr} {H : Hp} {st : Option (List Node)} {o : Obj} {u : HO} (A : KeepAt CN CH CK H k st) (hf : H f = some (.frz o u)) : KeepAt CN CH CK (del H f) k st := by
  have ki : ∀ {b C dx : Addr} {fs : List (Str × V)}, H b = some (.ins C dx fs) → del H f b = some (.ins C dx fs) := fun {b C dx fs} e => by
    rw [del_ne]
    · exact e
    · intro z
      rw [z, hf] at e
      cases e
  have kl : ∀ {b : Addr} {xs : List V}, H b = some (.lst xs) → del H f b = some (.lst xs) := fun {b xs} e => by
    rw [del_ne]
    · exact e
    · intro z
      rw [z, hf] at e
      cases e
  obtain ⟨dx, A⟩ := A
  refine ⟨dx, ?_⟩
  rcases A with ⟨e1, e2⟩ | ⟨l, h, e1, e2, ⟨dh, t, e3, as, e4, e5, e6⟩, e7⟩
  · exact .inl ⟨e1, ki e2⟩
  · refine .inr ⟨l, h, e1, ki e2, ⟨dh, t, ki e3, as, kl e4, e5, fun i a n ha hn => ?_⟩, e7⟩
    obtain ⟨dn, c, u1, u2⟩ := e6 i a n ha hn
    exact ⟨dn, c, ki u1, kl u2⟩
theorem del_upd {H : Hp} {f : Addr} {o : HO} : del (upd H f o) f = del H f := by
  funext b
  by_cases h : b = f
  · rw [h, del_same, del_same]
  · rw [del_ne h, del_ne h, upd_ne h]
theorem same_del {H : Hp} {f : Addr} {o : HO} : Same (del H f) (upd H f o) := fun b u e => by
  by_cases h : b = f
  · rw [h, del_same] at e
    cases e
  · rw [del_ne h] at e
    rw [upd_ne h]
    exact e
theorem lists_late {H0 H : Hp} {f : Addr} {o : HO} (L : Lists H0 H) (n : H0 f = none) : Lists H0 (upd H f o) := fun b u e ne => by
  rw [upd_ne (ne_of_none e n)]
  exact L b u e ne
theorem SqL.lists {K : PySem.W.Frag} {H H' : Hp} {a : Addr} {xs : List V} (L : Lists H H') (h : SqL K H a xs) : SqL K H' a xs := by
  rcases h with (h | ⟨o, h⟩) | h
  · exact .inl (.inl (L _ _ h fun _ _ _ z => by cases z))
  · exact .inl (.inr ⟨o, L _ _ h fun _ _ _ z => by cases z⟩)
  · exact .inr h
theorem nums_get {xs : List Int} {i : Nat} {x : Int} (h : xs[i]? = some x) : (nums xs)[i]? = some (.int x) := by
  unfold nums
  rw [List.getElem?_map, h]
  rfl
theorem nums_app (a b : List Int) : nums (a ++ b) = nums a ++ nums b := List.map_append ..
theorem asked_open {ns : List Int} (h : PyKp365.answers_asked ns = true) : ∃ cs, PyKp365.calls ns = some cs ∧ cs.length ≤ 60 ∧ cs.all Kp365Neutral.asked1 = true := by
  unfold PyKp365.answers_asked at h
  split at h
  · cases h
  · rename_i cs e
    refine ⟨cs, e, ?_, ?_⟩
    · exact of_decide_eq_true (and2 (and2 h).1).1
    · have := (and2 (and2 h).1).2
      unfold Kp365Neutral.asked at this
      exact (and2 (and2 this).2).2
def spAns (K : PySem.W.Frag) : Sp := fun vs H Q _ => ∃ (a : Addr) (ns : List Int), vs = [.ref a] ∧ SqL K H a (nums ns) ∧ PyKp365.answers_asked ns = true ∧ ∀ (H' : Hp) (p : Addr), H' p = some (.lst (nums (PyKp365.answers ns))) → Q (.ref p) H'
abbrev s_answers : Stmt := top 66
theorem sc_answers : FnScope ["calls", "keeper", "found", "at", "end", "answer"] ["calls"] (defScope s_answers) := ⟨rfl, rfl, rfl, by decide +kernel, rfl, by decide +kernel, by decide +kernel⟩
section
variable {P : Program} {w : World} {K : PySem.W.Frag} {mg : Str → Option Value} {base : Heap} {CN CR CH CK dd : Addr}
theorem ok_answers (T : Txt K mg CN CR CH CK) {f : Addr} {fd : FuncData} (F : Fun K "answers" "answers" s_answers f fd) (G_Keeper : COk P w K mg base CX0 1 "Keeper" CK ["self"] (spKeepInit CK)) (M_answer : MOk P w K mg base CX0 8 CK "answer" ["self", "call", "given"] (spAnswer CN CH CK)) :
    FnOk P w K mg base CX0 9 f fd ["calls"] (spAns K) := by
  refine F.ok sc_answers (fun vs H Q E h => ?_) (fun cdv A outer s H vs Q E hr h => ⟨_, (pss_cons (ps_set (i := 1) sc_answers.nd rfl (Or.inl rfl) (pe_makeG0 G_Keeper (hr.mono (by decide)) rfl pass0)) (pss_cons (ps_set (i := 2) sc_answers.nd rfl (Or.inl rfl) (pe_lst pa_nil)) (pss_cons (ps_set (i := 3) sc_answers.nd rfl (Or.inl rfl) pe_int) (pss_cons (ps_while PassesOwn.never (pt_cmp (pc_lt (pv 3) (pe_callB call_len_seq (by rfl) T.len PySem.boot_len (pa_cons (pv 0) pa_nil))) (by rfl)) (pss_cons (ps_set (i := 4) sc_answers.nd rfl (Or.inl rfl) (pe_op op_add (pe_op op_add (pv 3) pe_int) (pe_ix ix_list (pv 0) (pe_op op_add (pv 3) pe_int) (fun _ _ => rfl)))) (pss_cons (ps_set (i := 5) sc_answers.nd rfl (Or.inl rfl) (pe_lock (pe_methG M_answer T.clK (hr.mono (by decide)) pass0 (pv 1) (pa_cons (pe_ix ix_list (pv 0) (pv 3) (fun _ _ => rfl)) (pa_cons (pe_slice sl_list (pv 0) (po_some (pe_op op_add (pv 3) pe_int)) (po_some (pv 4))) pa_nil))))) (pss_cons (ps_expr (pe_bm PySem.F.plainAttrs_list PySem.F.slot_list_append PySem.F.type_list_append mt_append (pv 2) (pa_cons (pe_callB call_len_seq (by rfl) T.len PySem.boot_len (pa_cons (pv 5) pa_nil)) pa_nil))) (pss_cons (ps_expr (pe_bm PySem.F.plainAttrs_list PySem.F.slot_list_extend PySem.F.type_list_extend mt_extend (pv 2) (pa_cons (pv 5) pa_nil))) (pss_one (ps_set (i := 3) sc_answers.nd rfl (Or.inl rfl) (pe_op op_add (pv 4) pe_int)))))))) (pss_one (ps_ret (pv 2))))))), ?_⟩)
  · obtain ⟨a, ns, rfl, _⟩ := h
    rfl
  · obtain ⟨a, ns, rfl, hS, ask, q⟩ := h
    obtain ⟨cs, hcs, h60, hall⟩ := asked_open ask
    have eans : PyKp365.answers ns = PyFlat.told (PyFlat.played Kp365Neutral.step Kp365Neutral.start cs) := by
      unfold PyKp365.answers
      rw [hcs]
    rw [eans] at q
    try dsimp only [tSeq, tIfS, tNext, tB, tTest, tEqI, tNeI, tLt, tLe, tGt, tGe, tCmp, t2I, tAsg, tDrop, tRet, gName, tCons, tNil, tBM, tCB, tOp, tCallG, tCallGS, tMethG, tMakeG, tSl, tPart, tNoPart, tLst, tTup, tNot, tNotV, tAnd, tOr, tAndV, tOrV, tIf, tIsN, tNotN, tC, tUn, rU, rI, rI0]
    intro k dx nk nd ne
    refine ⟨k, dx, rfl, upd_same, rfl, small (Nat.zero_le _), fun f nf => ?_⟩
    have s0 : Same H (upd (upd (upd H dx (.own k)) k (.ins CK dx [])) k (.ins CK dx [("holder", .non)])) := same_late (same_late (same_new nd) nk) nk
    have gk : (upd (upd (upd H dx (.own k)) k (.ins CK dx [])) k (.ins CK dx [("holder", .non)])) k = some (.ins CK dx [("holder", .non)]) := upd_same
    generalize (upd (upd (upd H dx (.own k)) k (.ins CK dx [])) k (.ins CK dx [("holder", .non)])) = H1 at nf s0 gk
    have nf0 : H f = none := s0.free nf
    have kf : k ≠ f := ne_of_none gk nf
    have L1 : Lists H (upd H1 f (.lst [])) := lists_late (Same.lists s0) nf0
    have K1 : KeepAt CN CH CK (del (upd H1 f (.lst [])) f) k none := ⟨dx, .inl ⟨rfl, by rw [del_upd, del_ne kf]; exact gk⟩⟩
    have g1 : (upd H1 f (.lst [])) f = some (.lst []) := upd_same
    generalize (upd H1 f (.lst [])) = H2 at L1 K1 g1
    refine ⟨fun m σ H' => ∃ (at_ : Nat) (st : Option (List Node)) (done : List (List Int)) (rest : List (List (List Int))) (fu : Nat) (v4 v5 : Option V), σ = [some (.ref a), some (.ref k), some (.ref f), some (.int (at_ : Nat)), v4, v5] ∧ Lists H H' ∧ KeepAt CN CH CK (del H' f) k st ∧
        H' f = some (.lst (nums (PyFlat.told done))) ∧ at_ ≤ ns.length ∧ m = ns.length - at_ ∧ PyWide.calls fu (ns.drop at_) = some rest ∧ rest.all Kp365Neutral.asked1 = true ∧ done ++ PyFlat.played Kp365Neutral.step (dk st) rest = PyFlat.played Kp365Neutral.step Kp365Neutral.start cs ∧
        done.length + rest.length ≤ 60 ∧ ∀ x ∈ done, x.length ≤ 22,
      ⟨_, 0, none, [], cs, ns.length, none, none, rfl, L1, K1, g1, Nat.zero_le _, rfl, hcs, hall, rfl, by simpa using h60, fun x hx => by cases hx⟩, ?_⟩
    rintro m σ H' ⟨at_, st, done, rest, fu, v4, v5, rfl, LL, KA, hf, hat, rfl, hrest, hra, hpl, hlen, hdone⟩
    have hSa := SqL.lists LL hS
    have nlen : (nums ns).length = ns.length := List.length_map ..
    try dsimp only [tSeq, tIfS, tNext, tB, tTest, tEqI, tNeI, tLt, tLe, tGt, tGe, tCmp, t2I, tAsg, tDrop, tRet, gName, tCons, tNil, tBM, tCB, tOp, tCallG, tCallGS, tMethG, tMakeG, tSl, tPart, tNoPart, tLst, tTup, tNot, tNotV, tAnd, tOr, tAndV, tOrV, tIf, tIsN, tNotN, tC, tUn, rU, rI, rI0]
    refine ⟨_, rfl, _, rfl, a, _, rfl, .inl hSa, _, _, rfl, rfl, _, rfl, ?_⟩
    rw [nlen]
    refine ite2 (fun c => ?_) (fun c => ?_)
    · have hlt : at_ < ns.length := by have := of_decide_eq_true c; omega
      have hne : ns.drop at_ ≠ [] := fun z => by
        have := congrArg List.length z
        rw [List.length_drop] at this
        simp at this
        omega
      obtain ⟨fu', p, args, kz, t, rest', hd, rfl, hrest', has1, hra'⟩ := calls_next hrest hne hra
      have gat : ∀ i : Nat, ns[at_ + i]? = (p :: ((args.length : Nat) : Int) :: (args ++ kz :: t))[i]? := fun i => by rw [← List.getElem?_drop, hd]
      have g0' : (nums ns)[at_]? = some (.int p) := nums_get (gat 0)
      have g1' : (nums ns)[at_ + 1]? = some (.int ((args.length : Nat) : Int)) := nums_get (gat 1)
      have dlen : ns.length - at_ = args.length + 3 + t.length := by
        have := congrArg List.length hd
        rw [List.length_drop] at this
        rw [this, List.length_cons, List.length_cons, List.length_append, List.length_cons]
        omega
      have ecut : cutV (nums ns) (some ((at_ : Int) + 2)) (some ((at_ : Int) + 2 + ((args.length : Nat) : Int))) = nums args := by
        have e1 : ((at_ : Int) + 2) = ((at_ + 2 : Nat) : Int) := by omega
        have e2 : ((at_ : Int) + 2 + ((args.length : Nat) : Int)) = ((at_ + 2 + args.length : Nat) : Int) := by omega
        rw [e2, e1, cut_mid _ _ _ (by omega) (by rw [nlen]; omega)]
        unfold nums
        rw [← List.map_drop, ← List.map_take]
        have e3 : ns.drop (at_ + 2) = args ++ kz :: t := by
          rw [← List.drop_drop, hd]
          rfl
        have e4 : at_ + 2 + args.length - (at_ + 2) = args.length := by omega
        rw [e3, e4, List.take_left]
      refine ⟨fun σ' H'' => ∃ (at' : Nat) (st : Option (List Node)) (done : List (List Int)) (rest : List (List (List Int))) (fu : Nat) (v4 v5 : Option V), at_ < at' ∧ σ' = [some (.ref a), some (.ref k), some (.ref f), some (.int (at' : Nat)), v4, v5] ∧ Lists H H'' ∧ KeepAt CN CH CK (del H'' f) k st ∧
          H'' f = some (.lst (nums (PyFlat.told done))) ∧ at' ≤ ns.length ∧ PyWide.calls fu (ns.drop at') = some rest ∧ rest.all Kp365Neutral.asked1 = true ∧ done ++ PyFlat.played Kp365Neutral.step (dk st) rest = PyFlat.played Kp365Neutral.step Kp365Neutral.start cs ∧
          done.length + rest.length ≤ 60 ∧ ∀ x ∈ done, x.length ≤ 22,
        fun σ' H'' ⟨at', st, done, rest, fu, v4, v5, z1, z2, z3, z4, z5, z6, z7⟩ => ⟨ns.length - at', by omega, at', st, done, rest, fu, v4, v5, z2, z3, z4, z5, z6, rfl, z7⟩, ?_⟩
      try dsimp only [tSeq, tIfS, tNext, tB, tTest, tEqI, tNeI, tLt, tLe, tGt, tGe, tCmp, t2I, tAsg, tDrop, tRet, gName, tCons, tNil, tBM, tCB, tOp, tCallG, tCallGS, tMethG, tMakeG, tSl, tPart, tNoPart, tLst, tTup, tNot, tNotV, tAnd, tOr, tAndV, tOrV, tIf, tIsN, tNotN, tC, tUn, rU, rI, rI0]
      refine ⟨_, rfl, _, _, rfl, rfl, _, rfl, _, rfl, _, _, rfl, rfl, a, _, _, _, rfl, rfl, hSa, at_of (j := at_ + 1) (by omega) g1', _, _, rfl, rfl, ?_⟩
      -- keeper.answer(..), found locked
      refine ⟨f, _, hf, trivial, fun od => ?_⟩
      have LLo := lists_late (o := .frz od (.lst (nums (PyFlat.told done)))) LL nf0
      have KAo : KeepAt CN CH CK (upd H' f (.frz od (.lst (nums (PyFlat.told done))))) k st := KA.same same_del
      have gfo : (upd H' f (.frz od (.lst (nums (PyFlat.told done))))) f = some (.frz od (.lst (nums (PyFlat.told done)))) := upd_same
      generalize (upd H' f (.frz od (.lst (nums (PyFlat.told done))))) = Ho at LLo KAo gfo
      have hSo := SqL.lists LLo hS
      obtain ⟨dk', hk'⟩ : ∃ dx v, Ho k = some (.ins CK dx [("holder", v)]) := by
        obtain ⟨dx, KZ⟩ := KAo
        rcases KZ with ⟨_, e⟩ | ⟨l, h, _, e, _⟩
        · exact ⟨_, _, e⟩
        · exact ⟨_, _, e⟩
      obtain ⟨vk, hk'⟩ := hk'
      refine ⟨_, rfl, k, dk', _, rfl, hk', (lk_past (by decide +kernel)).trans rfl, _, rfl, _, rfl, a, _, _, _, rfl, rfl, hSo, atI_nat g0', _, rfl, _, rfl, _, _, rfl, rfl, _, rfl, _, rfl, _, rfl, a, _, rfl, hSo, fun g ng => ?_⟩
      generalize e_Hp2 : upd Ho g _ = Hp2; have s2 : Same Ho Hp2 := e_Hp2 ▸ same_new ng; have g2 := e_Hp2 ▸ (upd_same : upd Ho g _ g = some _)
      have g2' : Hp2 g = some (.lst (nums args)) := by
        rw [g2, ← ecut]
      refine ⟨k, g, p, args, st, rfl, g2', KAo.same s2, has1, fun H3 qa st' av hst K3 L3 hq hz => ?_⟩
      have gf3 : H3 f = some (.frz od (.lst (nums (PyFlat.told done)))) := L3 _ _ (s2 _ _ gfo) fun _ _ _ z => by cases z
      have qf : qa ≠ f := fun z => by
        rw [z, gf3] at hq
        cases hq
      have K3d := K3.drop gf3
      have L03 : Lists H H3 := (LLo.trans (Same.lists s2)).trans L3
      refine ⟨gf3, ?_⟩
      have zs1 : (nums (PyFlat.told done)).length ≤ 1400 := by
        unfold nums
        rw [List.length_map]
        have := told_len hdone
        rw [List.length_cons] at hlen
        omega
      have zav : (nums av).length = av.length := List.length_map ..
      refine ⟨_, rfl, .inl ⟨rfl, _, SqL.of upd_same⟩, _, rfl, qa, _, rfl, .inl (SqL.of (by rw [upd_ne qf]; exact hq)), f, _, _, rfl, rfl, upd_same, smallT (by omega), ?_⟩
      refine ⟨_, rfl, .inl ⟨rfl, _, SqL.of upd_same⟩, _, rfl, f, qa, _, _, rfl, rfl, upd_same, (by rw [upd_ne qf, upd_ne qf]; exact hq), small (by rw [List.length_append, zav]; show _ + 1 + _ ≤ _; omega), ?_⟩
      refine ⟨_, rfl, _, _, rfl, rfl, ?_⟩
      refine ⟨at_ + 3 + args.length, st', done ++ [av], rest', fu', some (.int ((at_ : Int) + 2 + ((args.length : Nat) : Int))), some (.ref qa), by omega, ?_, ?_, ?_, ?_, by omega, ?_, hra', ?_, ?_, ?_⟩
      · have e : (at_ : Int) + 2 + ((args.length : Nat) : Int) + 1 = ((at_ + 3 + args.length : Nat) : Int) := by omega
        show [some (V.ref a), some (V.ref k), some (V.ref f), some (V.int ((at_ : Int) + 2 + ((args.length : Nat) : Int) + 1)), some (V.int ((at_ : Int) + 2 + ((args.length : Nat) : Int))), some (V.ref qa)] = _
        rw [e]
      · exact lists_late (lists_late (lists_late L03 nf0) nf0) nf0
      · rw [del_upd, del_upd, del_upd]
        exact K3d
      · rw [upd_same, told_app, told_one, nums_app, zav]
        show some (HO.lst ((nums (PyFlat.told done) ++ [V.int (av.length : Nat)]) ++ nums av)) = _
        rw [List.append_assoc]
        rfl
      · have e : ns.drop (at_ + 3 + args.length) = t := by
          have e1 : at_ + 3 + args.length = at_ + (2 + args.length + 1) := by omega
          rw [e1, ← List.drop_drop, hd]
          have e2 : 2 + args.length + 1 = (args.length + 1) + 1 + 1 := by omega
          rw [e2]
          show (args ++ kz :: t).drop (args.length + 1) = t
          rw [← List.drop_drop, List.drop_left]
          rfl
        rw [e]
        exact hrest'
      · rw [← hpl, List.append_assoc]
        show done ++ (av :: PyFlat.played Kp365Neutral.step (dk st') rest') = done ++ ((Kp365Neutral.step (dk st) [p :: args]).2 :: PyFlat.played Kp365Neutral.step (Kp365Neutral.step (dk st) [p :: args]).1 rest')
        rw [hst]
      · rw [List.length_append]
        rw [List.length_cons] at hlen
        show done.length + 1 + _ ≤ _
        omega
      · intro x hx
        rcases List.mem_append.mp hx with z | z
        · exact hdone x z
        · rw [List.mem_singleton] at z
          rw [z]
          exact hz
    · have hge : at_ = ns.length := by
        have : ¬ at_ < ns.length := fun z => c (decide_eq_true (by omega))
        omega
      rw [hge, List.drop_length] at hrest
      have er : rest = [] := by
        cases fu <;> (cases hrest; rfl)
      subst er
      have ed : done = PyFlat.played Kp365Neutral.step Kp365Neutral.start cs := by
        rw [← hpl]
        show done = done ++ []
        rw [List.append_nil]
      rw [ed] at hf
      exact ⟨_, rfl, q H' f hf⟩
end
end Dis
end
section
set_option linter.all false
set_option maxRecDepth 100000
set_option maxHeartbeats 4000000
namespace Dis
open PySem PySem.Spec PyProof.Rows L2
open Kp365 (Node)
theorem bd_new_leaf (kV doc pm : Value) (an : Option Addr) (cdv ct : Value) (us : List Value) (hl : us.length = (["is_so", "misread"] : List Str).length) :
    bindArgs (PySem.W.fnOf "new_leaf" "new_leaf" (defArgs s_new_leaf) (defBody s_new_leaf) (defScope s_new_leaf) .none kV doc pm an cdv ct) ⟨us, []⟩ = pure ((["is_so", "misread"] : List Str).zip us) := match us, hl with | [_, _], _ => rfl
theorem bd_put_at (kV doc pm : Value) (an : Option Addr) (cdv ct : Value) (us : List Value) (hl : us.length = (["tree", "number", "node"] : List Str).length) :
    bindArgs (PySem.W.fnOf "put_at" "put_at" (defArgs s_put_at) (defBody s_put_at) (defScope s_put_at) .none kV doc pm an cdv ct) ⟨us, []⟩ = pure ((["tree", "number", "node"] : List Str).zip us) := match us, hl with | [_, _, _], _ => rfl
theorem bd_flipped (kV doc pm : Value) (an : Option Addr) (cdv ct : Value) (us : List Value) (hl : us.length = (["tree", "number"] : List Str).length) :
    bindArgs (PySem.W.fnOf "flipped" "flipped" (defArgs s_flipped) (defBody s_flipped) (defScope s_flipped) .none kV doc pm an cdv ct) ⟨us, []⟩ = pure ((["tree", "number"] : List Str).zip us) := match us, hl with | [_, _], _ => rfl
theorem bd_misread_so (kV doc pm : Value) (an : Option Addr) (cdv ct : Value) (us : List Value) (hl : us.length = (["tree", "number", "misread"] : List Str).length) :
    bindArgs (PySem.W.fnOf "misread_so" "misread_so" (defArgs s_misread_so) (defBody s_misread_so) (defScope s_misread_so) .none kV doc pm an cdv ct) ⟨us, []⟩ = pure ((["tree", "number", "misread"] : List Str).zip us) := match us, hl with | [_, _, _], _ => rfl
theorem bd_truths (kV doc pm : Value) (an : Option Addr) (cdv ct : Value) (us : List Value) (hl : us.length = (["tree"] : List Str).length) :
    bindArgs (PySem.W.fnOf "truths" "truths" (defArgs s_truths) (defBody s_truths) (defScope s_truths) .none kV doc pm an cdv ct) ⟨us, []⟩ = pure ((["tree"] : List Str).zip us) := match us, hl with | [_], _ => rfl
theorem bd_leaves_of (kV doc pm : Value) (an : Option Addr) (cdv ct : Value) (us : List Value) (hl : us.length = (["tree", "number"] : List Str).length) :
    bindArgs (PySem.W.fnOf "leaves_of" "leaves_of" (defArgs s_leaves_of) (defBody s_leaves_of) (defScope s_leaves_of) .none kV doc pm an cdv ct) ⟨us, []⟩ = pure ((["tree", "number"] : List Str).zip us) := match us, hl with | [_, _], _ => rfl
theorem bd_joined (kV doc pm : Value) (an : Option Addr) (cdv ct : Value) (us : List Value) (hl : us.length = (["rows"] : List Str).length) :
    bindArgs (PySem.W.fnOf "joined" "joined" (defArgs s_joined) (defBody s_joined) (defScope s_joined) .none kV doc pm an cdv ct) ⟨us, []⟩ = pure ((["rows"] : List Str).zip us) := match us, hl with | [_], _ => rfl
theorem bd_depth_of (kV doc pm : Value) (an : Option Addr) (cdv ct : Value) (us : List Value) (hl : us.length = (["tree", "number"] : List Str).length) :
    bindArgs (PySem.W.fnOf "depth_of" "depth_of" (defArgs s_depth_of) (defBody s_depth_of) (defScope s_depth_of) .none kV doc pm an cdv ct) ⟨us, []⟩ = pure ((["tree", "number"] : List Str).zip us) := match us, hl with | [_, _], _ => rfl
theorem bd_proof_of (kV doc pm : Value) (an : Option Addr) (cdv ct : Value) (us : List Value) (hl : us.length = (["tree", "number"] : List Str).length) :
    bindArgs (PySem.W.fnOf "proof_of" "proof_of" (defArgs s_proof_of) (defBody s_proof_of) (defScope s_proof_of) .none kV doc pm an cdv ct) ⟨us, []⟩ = pure ((["tree", "number"] : List Str).zip us) := match us, hl with | [_, _], _ => rfl
theorem bd_shortest (kV doc pm : Value) (an : Option Addr) (cdv ct : Value) (us : List Value) (hl : us.length = (["rows"] : List Str).length) :
    bindArgs (PySem.W.fnOf "shortest" "shortest" (defArgs s_shortest) (defBody s_shortest) (defScope s_shortest) .none kV doc pm an cdv ct) ⟨us, []⟩ = pure ((["rows"] : List Str).zip us) := match us, hl with | [_], _ => rfl
theorem bd_matters (kV doc pm : Value) (an : Option Addr) (cdv ct : Value) (us : List Value) (hl : us.length = (["tree", "number"] : List Str).length) :
    bindArgs (PySem.W.fnOf "matters" "matters" (defArgs s_matters) (defBody s_matters) (defScope s_matters) .none kV doc pm an cdv ct) ⟨us, []⟩ = pure ((["tree", "number"] : List Str).zip us) := match us, hl with | [_, _], _ => rfl
theorem bd_held_all (kV doc pm : Value) (an : Option Addr) (cdv ct : Value) (us : List Value) (hl : us.length = (["tree"] : List Str).length) :
    bindArgs (PySem.W.fnOf "held_all" "held_all" (defArgs s_held_all) (defBody s_held_all) (defScope s_held_all) .none kV doc pm an cdv ct) ⟨us, []⟩ = pure ((["tree"] : List Str).zip us) := match us, hl with | [_], _ => rfl
theorem bd_held_by (kV doc pm : Value) (an : Option Addr) (cdv ct : Value) (us : List Value) (hl : us.length = (["tree", "picks", "told_kind"] : List Str).length) :
    bindArgs (PySem.W.fnOf "held_by" "held_by" (defArgs s_held_by) (defBody s_held_by) (defScope s_held_by) .none kV doc pm an cdv ct) ⟨us, []⟩ = pure ((["tree", "picks", "told_kind"] : List Str).zip us) := match us, hl with | [_, _, _], _ => rfl
theorem bd_are_picks (kV doc pm : Value) (an : Option Addr) (cdv ct : Value) (us : List Value) (hl : us.length = (["tree", "picks", "told_kind"] : List Str).length) :
    bindArgs (PySem.W.fnOf "are_picks" "are_picks" (defArgs s_are_picks) (defBody s_are_picks) (defScope s_are_picks) .none kV doc pm an cdv ct) ⟨us, []⟩ = pure ((["tree", "picks", "told_kind"] : List Str).zip us) := match us, hl with | [_, _, _], _ => rfl
theorem bd_is_pick (kV doc pm : Value) (an : Option Addr) (cdv ct : Value) (us : List Value) (hl : us.length = (["node", "pick", "told_kind"] : List Str).length) :
    bindArgs (PySem.W.fnOf "is_pick" "is_pick" (defArgs s_is_pick) (defBody s_is_pick) (defScope s_is_pick) .none kV doc pm an cdv ct) ⟨us, []⟩ = pure ((["node", "pick", "told_kind"] : List Str).zip us) := match us, hl with | [_, _, _], _ => rfl
theorem bd_right_wins (kV doc pm : Value) (an : Option Addr) (cdv ct : Value) (us : List Value) (hl : us.length = (["tree", "number"] : List Str).length) :
    bindArgs (PySem.W.fnOf "right_wins" "right_wins" (defArgs s_right_wins) (defBody s_right_wins) (defScope s_right_wins) .none kV doc pm an cdv ct) ⟨us, []⟩ = pure ((["tree", "number"] : List Str).zip us) := match us, hl with | [_, _], _ => rfl
theorem bd_picked (kV doc pm : Value) (an : Option Addr) (cdv ct : Value) (us : List Value) (hl : us.length = (["tree", "number"] : List Str).length) :
    bindArgs (PySem.W.fnOf "picked" "picked" (defArgs s_picked) (defBody s_picked) (defScope s_picked) .none kV doc pm an cdv ct) ⟨us, []⟩ = pure ((["tree", "number"] : List Str).zip us) := match us, hl with | [_, _], _ => rfl
theorem bd_way_from (kV doc pm : Value) (an : Option Addr) (cdv ct : Value) (us : List Value) (hl : us.length = (["tree", "number"] : List Str).length) :
    bindArgs (PySem.W.fnOf "way_from" "way_from" (defArgs s_way_from) (defBody s_way_from) (defScope s_way_from) .none kV doc pm an cdv ct) ⟨us, []⟩ = pure ((["tree", "number"] : List Str).zip us) := match us, hl with | [_, _], _ => rfl
theorem bd_best_leaf (kV doc pm : Value) (an : Option Addr) (cdv ct : Value) (us : List Value) (hl : us.length = (["tree", "number"] : List Str).length) :
    bindArgs (PySem.W.fnOf "best_leaf" "best_leaf" (defArgs s_best_leaf) (defBody s_best_leaf) (defScope s_best_leaf) .none kV doc pm an cdv ct) ⟨us, []⟩ = pure ((["tree", "number"] : List Str).zip us) := match us, hl with | [_, _], _ => rfl
theorem bd_need (kV doc pm : Value) (an : Option Addr) (cdv ct : Value) (us : List Value) (hl : us.length = (["is_so", "number"] : List Str).length) :
    bindArgs (PySem.W.fnOf "need" "need" (defArgs s_need) (defBody s_need) (defScope s_need) .none kV doc pm an cdv ct) ⟨us, []⟩ = pure ((["is_so", "number"] : List Str).zip us) := match us, hl with | [_, _], _ => rfl
theorem bd_divisor (kV doc pm : Value) (an : Option Addr) (cdv ct : Value) (us : List Value) (hl : us.length = (["one", "other"] : List Str).length) :
    bindArgs (PySem.W.fnOf "divisor" "divisor" (defArgs s_divisor) (defBody s_divisor) (defScope s_divisor) .none kV doc pm an cdv ct) ⟨us, []⟩ = pure ((["one", "other"] : List Str).zip us) := match us, hl with | [_, _], _ => rfl
theorem bd_fraction (kV doc pm : Value) (an : Option Addr) (cdv ct : Value) (us : List Value) (hl : us.length = (["hundredths"] : List Str).length) :
    bindArgs (PySem.W.fnOf "fraction" "fraction" (defArgs s_fraction) (defBody s_fraction) (defScope s_fraction) .none kV doc pm an cdv ct) ⟨us, []⟩ = pure ((["hundredths"] : List Str).zip us) := match us, hl with | [_], _ => rfl
theorem bd_counted (kV doc pm : Value) (an : Option Addr) (cdv ct : Value) (us : List Value) (hl : us.length = (["numbers"] : List Str).length) :
    bindArgs (PySem.W.fnOf "counted" "counted" (defArgs s_counted) (defBody s_counted) (defScope s_counted) .none kV doc pm an cdv ct) ⟨us, []⟩ = pure ((["numbers"] : List Str).zip us) := match us, hl with | [_], _ => rfl
theorem bd_leaf (kV doc pm : Value) (an : Option Addr) (cdv ct : Value) (us : List Value) (hl : us.length = (["holder", "given"] : List Str).length) :
    bindArgs (PySem.W.fnOf "leaf" "leaf" (defArgs s_leaf) (defBody s_leaf) (defScope s_leaf) .none kV doc pm an cdv ct) ⟨us, []⟩ = pure ((["holder", "given"] : List Str).zip us) := match us, hl with | [_, _], _ => rfl
theorem bd_all_of (kV doc pm : Value) (an : Option Addr) (cdv ct : Value) (us : List Value) (hl : us.length = (["holder", "given"] : List Str).length) :
    bindArgs (PySem.W.fnOf "all_of" "all_of" (defArgs s_all_of) (defBody s_all_of) (defScope s_all_of) .none kV doc pm an cdv ct) ⟨us, []⟩ = pure ((["holder", "given"] : List Str).zip us) := match us, hl with | [_, _], _ => rfl
theorem bd_some (kV doc pm : Value) (an : Option Addr) (cdv ct : Value) (us : List Value) (hl : us.length = (["holder", "given"] : List Str).length) :
    bindArgs (PySem.W.fnOf "some" "some" (defArgs s_some) (defBody s_some) (defScope s_some) .none kV doc pm an cdv ct) ⟨us, []⟩ = pure ((["holder", "given"] : List Str).zip us) := match us, hl with | [_, _], _ => rfl
theorem bd_pop (kV doc pm : Value) (an : Option Addr) (cdv ct : Value) (us : List Value) (hl : us.length = (["holder", "given"] : List Str).length) :
    bindArgs (PySem.W.fnOf "pop" "pop" (defArgs s_pop) (defBody s_pop) (defScope s_pop) .none kV doc pm an cdv ct) ⟨us, []⟩ = pure ((["holder", "given"] : List Str).zip us) := match us, hl with | [_, _], _ => rfl
theorem bd_node_is (kV doc pm : Value) (an : Option Addr) (cdv ct : Value) (us : List Value) (hl : us.length = (["holder", "given"] : List Str).length) :
    bindArgs (PySem.W.fnOf "node_is" "node_is" (defArgs s_node_is) (defBody s_node_is) (defScope s_node_is) .none kV doc pm an cdv ct) ⟨us, []⟩ = pure ((["holder", "given"] : List Str).zip us) := match us, hl with | [_, _], _ => rfl
theorem bd_flip (kV doc pm : Value) (an : Option Addr) (cdv ct : Value) (us : List Value) (hl : us.length = (["holder", "given"] : List Str).length) :
    bindArgs (PySem.W.fnOf "flip" "flip" (defArgs s_flip) (defBody s_flip) (defScope s_flip) .none kV doc pm an cdv ct) ⟨us, []⟩ = pure ((["holder", "given"] : List Str).zip us) := match us, hl with | [_, _], _ => rfl
theorem bd_wrong (kV doc pm : Value) (an : Option Addr) (cdv ct : Value) (us : List Value) (hl : us.length = (["holder", "given"] : List Str).length) :
    bindArgs (PySem.W.fnOf "wrong" "wrong" (defArgs s_wrong) (defBody s_wrong) (defScope s_wrong) .none kV doc pm an cdv ct) ⟨us, []⟩ = pure ((["holder", "given"] : List Str).zip us) := match us, hl with | [_, _], _ => rfl
theorem bd_is_true (kV doc pm : Value) (an : Option Addr) (cdv ct : Value) (us : List Value) (hl : us.length = (["holder", "given"] : List Str).length) :
    bindArgs (PySem.W.fnOf "is_true" "is_true" (defArgs s_is_true) (defBody s_is_true) (defScope s_is_true) .none kV doc pm an cdv ct) ⟨us, []⟩ = pure ((["holder", "given"] : List Str).zip us) := match us, hl with | [_, _], _ => rfl
theorem bd_held (kV doc pm : Value) (an : Option Addr) (cdv ct : Value) (us : List Value) (hl : us.length = (["holder", "given"] : List Str).length) :
    bindArgs (PySem.W.fnOf "held" "held" (defArgs s_held) (defBody s_held) (defScope s_held) .none kV doc pm an cdv ct) ⟨us, []⟩ = pure ((["holder", "given"] : List Str).zip us) := match us, hl with | [_, _], _ => rfl
theorem bd_right (kV doc pm : Value) (an : Option Addr) (cdv ct : Value) (us : List Value) (hl : us.length = (["holder", "given"] : List Str).length) :
    bindArgs (PySem.W.fnOf "right" "right" (defArgs s_right) (defBody s_right) (defScope s_right) .none kV doc pm an cdv ct) ⟨us, []⟩ = pure ((["holder", "given"] : List Str).zip us) := match us, hl with | [_, _], _ => rfl
theorem bd_pick (kV doc pm : Value) (an : Option Addr) (cdv ct : Value) (us : List Value) (hl : us.length = (["holder", "given"] : List Str).length) :
    bindArgs (PySem.W.fnOf "pick" "pick" (defArgs s_pick) (defBody s_pick) (defScope s_pick) .none kV doc pm an cdv ct) ⟨us, []⟩ = pure ((["holder", "given"] : List Str).zip us) := match us, hl with | [_, _], _ => rfl
theorem bd_way (kV doc pm : Value) (an : Option Addr) (cdv ct : Value) (us : List Value) (hl : us.length = (["holder", "given"] : List Str).length) :
    bindArgs (PySem.W.fnOf "way" "way" (defArgs s_way) (defBody s_way) (defScope s_way) .none kV doc pm an cdv ct) ⟨us, []⟩ = pure ((["holder", "given"] : List Str).zip us) := match us, hl with | [_, _], _ => rfl
theorem bd_by_say (kV doc pm : Value) (an : Option Addr) (cdv ct : Value) (us : List Value) (hl : us.length = (["holder", "given"] : List Str).length) :
    bindArgs (PySem.W.fnOf "by_say" "by_say" (defArgs s_by_say) (defBody s_by_say) (defScope s_by_say) .none kV doc pm an cdv ct) ⟨us, []⟩ = pure ((["holder", "given"] : List Str).zip us) := match us, hl with | [_, _], _ => rfl
theorem bd_by_doubt (kV doc pm : Value) (an : Option Addr) (cdv ct : Value) (us : List Value) (hl : us.length = (["holder", "given"] : List Str).length) :
    bindArgs (PySem.W.fnOf "by_doubt" "by_doubt" (defArgs s_by_doubt) (defBody s_by_doubt) (defScope s_by_doubt) .none kV doc pm an cdv ct) ⟨us, []⟩ = pure ((["holder", "given"] : List Str).zip us) := match us, hl with | [_, _], _ => rfl
theorem bd_proof (kV doc pm : Value) (an : Option Addr) (cdv ct : Value) (us : List Value) (hl : us.length = (["holder", "given"] : List Str).length) :
    bindArgs (PySem.W.fnOf "proof" "proof" (defArgs s_proof) (defBody s_proof) (defScope s_proof) .none kV doc pm an cdv ct) ⟨us, []⟩ = pure ((["holder", "given"] : List Str).zip us) := match us, hl with | [_, _], _ => rfl
theorem bd_leaves (kV doc pm : Value) (an : Option Addr) (cdv ct : Value) (us : List Value) (hl : us.length = (["holder", "given"] : List Str).length) :
    bindArgs (PySem.W.fnOf "leaves" "leaves" (defArgs s_leaves) (defBody s_leaves) (defScope s_leaves) .none kV doc pm an cdv ct) ⟨us, []⟩ = pure ((["holder", "given"] : List Str).zip us) := match us, hl with | [_, _], _ => rfl
theorem bd_matter (kV doc pm : Value) (an : Option Addr) (cdv ct : Value) (us : List Value) (hl : us.length = (["holder", "given"] : List Str).length) :
    bindArgs (PySem.W.fnOf "matter" "matter" (defArgs s_matter) (defBody s_matter) (defScope s_matter) .none kV doc pm an cdv ct) ⟨us, []⟩ = pure ((["holder", "given"] : List Str).zip us) := match us, hl with | [_, _], _ => rfl
theorem bd_if_wrong (kV doc pm : Value) (an : Option Addr) (cdv ct : Value) (us : List Value) (hl : us.length = (["holder", "given"] : List Str).length) :
    bindArgs (PySem.W.fnOf "if_wrong" "if_wrong" (defArgs s_if_wrong) (defBody s_if_wrong) (defScope s_if_wrong) .none kV doc pm an cdv ct) ⟨us, []⟩ = pure ((["holder", "given"] : List Str).zip us) := match us, hl with | [_, _], _ => rfl
theorem bd_if_flip (kV doc pm : Value) (an : Option Addr) (cdv ct : Value) (us : List Value) (hl : us.length = (["holder", "given"] : List Str).length) :
    bindArgs (PySem.W.fnOf "if_flip" "if_flip" (defArgs s_if_flip) (defBody s_if_flip) (defScope s_if_flip) .none kV doc pm an cdv ct) ⟨us, []⟩ = pure ((["holder", "given"] : List Str).zip us) := match us, hl with | [_, _], _ => rfl
theorem bd_best (kV doc pm : Value) (an : Option Addr) (cdv ct : Value) (us : List Value) (hl : us.length = (["holder", "given"] : List Str).length) :
    bindArgs (PySem.W.fnOf "best" "best" (defArgs s_best) (defBody s_best) (defScope s_best) .none kV doc pm an cdv ct) ⟨us, []⟩ = pure ((["holder", "given"] : List Str).zip us) := match us, hl with | [_, _], _ => rfl
theorem bd_depth (kV doc pm : Value) (an : Option Addr) (cdv ct : Value) (us : List Value) (hl : us.length = (["holder", "given"] : List Str).length) :
    bindArgs (PySem.W.fnOf "depth" "depth" (defArgs s_depth) (defBody s_depth) (defScope s_depth) .none kV doc pm an cdv ct) ⟨us, []⟩ = pure ((["holder", "given"] : List Str).zip us) := match us, hl with | [_, _], _ => rfl
theorem bd_answers (kV doc pm : Value) (an : Option Addr) (cdv ct : Value) (us : List Value) (hl : us.length = (["calls"] : List Str).length) :
    bindArgs (PySem.W.fnOf "answers" "answers" (defArgs s_answers) (defBody s_answers) (defScope s_answers) .none kV doc pm an cdv ct) ⟨us, []⟩ = pure ((["calls"] : List Str).zip us) := match us, hl with | [_], _ => rfl
theorem bd_Holder_need_node (kV doc pm : Value) (an : Option Addr) (cdv ct : Value) (us : List Value) (hl : us.length = (["self", "number"] : List Str).length) :
    bindArgs (PySem.W.fnOf "need_node" "Holder.need_node" (defArgs s_Holder_need_node) (defBody s_Holder_need_node) (defScope s_Holder_need_node) .none kV doc pm an cdv ct) ⟨us, []⟩ = pure ((["self", "number"] : List Str).zip us) := match us, hl with | [_, _], _ => rfl
theorem bd_Holder_need_leaf (kV doc pm : Value) (an : Option Addr) (cdv ct : Value) (us : List Value) (hl : us.length = (["self", "number"] : List Str).length) :
    bindArgs (PySem.W.fnOf "need_leaf" "Holder.need_leaf" (defArgs s_Holder_need_leaf) (defBody s_Holder_need_leaf) (defScope s_Holder_need_leaf) .none kV doc pm an cdv ct) ⟨us, []⟩ = pure ((["self", "number"] : List Str).zip us) := match us, hl with | [_, _], _ => rfl
theorem bd_Holder_need_leaf_of (kV doc pm : Value) (an : Option Addr) (cdv ct : Value) (us : List Value) (hl : us.length = (["self", "number", "leaf"] : List Str).length) :
    bindArgs (PySem.W.fnOf "need_leaf_of" "Holder.need_leaf_of" (defArgs s_Holder_need_leaf_of) (defBody s_Holder_need_leaf_of) (defScope s_Holder_need_leaf_of) .none kV doc pm an cdv ct) ⟨us, []⟩ = pure ((["self", "number", "leaf"] : List Str).zip us) := match us, hl with | [_, _, _], _ => rfl
theorem bd_Holder_put (kV doc pm : Value) (an : Option Addr) (cdv ct : Value) (us : List Value) (hl : us.length = (["self", "node"] : List Str).length) :
    bindArgs (PySem.W.fnOf "put" "Holder.put" (defArgs s_Holder_put) (defBody s_Holder_put) (defScope s_Holder_put) .none kV doc pm an cdv ct) ⟨us, []⟩ = pure ((["self", "node"] : List Str).zip us) := match us, hl with | [_, _], _ => rfl
theorem bd_Holder_leaf (kV doc pm : Value) (an : Option Addr) (cdv ct : Value) (us : List Value) (hl : us.length = (["self", "so", "misread"] : List Str).length) :
    bindArgs (PySem.W.fnOf "leaf" "Holder.leaf" (defArgs s_Holder_leaf) (defBody s_Holder_leaf) (defScope s_Holder_leaf) .none kV doc pm an cdv ct) ⟨us, []⟩ = pure ((["self", "so", "misread"] : List Str).zip us) := match us, hl with | [_, _, _], _ => rfl
theorem bd_Holder_are_free (kV doc pm : Value) (an : Option Addr) (cdv ct : Value) (us : List Value) (hl : us.length = (["self", "row"] : List Str).length) :
    bindArgs (PySem.W.fnOf "are_free" "Holder.are_free" (defArgs s_Holder_are_free) (defBody s_Holder_are_free) (defScope s_Holder_are_free) .none kV doc pm an cdv ct) ⟨us, []⟩ = pure ((["self", "row"] : List Str).zip us) := match us, hl with | [_, _], _ => rfl
theorem bd_Holder_above (kV doc pm : Value) (an : Option Addr) (cdv ct : Value) (us : List Value) (hl : us.length = (["self", "kind", "row"] : List Str).length) :
    bindArgs (PySem.W.fnOf "above" "Holder.above" (defArgs s_Holder_above) (defBody s_Holder_above) (defScope s_Holder_above) .none kV doc pm an cdv ct) ⟨us, []⟩ = pure ((["self", "kind", "row"] : List Str).zip us) := match us, hl with | [_, _, _], _ => rfl
theorem bd_Holder_pop (kV doc pm : Value) (an : Option Addr) (cdv ct : Value) (us : List Value) (hl : us.length = (["self"] : List Str).length) :
    bindArgs (PySem.W.fnOf "pop" "Holder.pop" (defArgs s_Holder_pop) (defBody s_Holder_pop) (defScope s_Holder_pop) .none kV doc pm an cdv ct) ⟨us, []⟩ = pure ((["self"] : List Str).zip us) := match us, hl with | [_], _ => rfl
theorem bd_Holder_node_is (kV doc pm : Value) (an : Option Addr) (cdv ct : Value) (us : List Value) (hl : us.length = (["self", "number"] : List Str).length) :
    bindArgs (PySem.W.fnOf "node_is" "Holder.node_is" (defArgs s_Holder_node_is) (defBody s_Holder_node_is) (defScope s_Holder_node_is) .none kV doc pm an cdv ct) ⟨us, []⟩ = pure ((["self", "number"] : List Str).zip us) := match us, hl with | [_, _], _ => rfl
theorem bd_Holder_flip (kV doc pm : Value) (an : Option Addr) (cdv ct : Value) (us : List Value) (hl : us.length = (["self", "number"] : List Str).length) :
    bindArgs (PySem.W.fnOf "flip" "Holder.flip" (defArgs s_Holder_flip) (defBody s_Holder_flip) (defScope s_Holder_flip) .none kV doc pm an cdv ct) ⟨us, []⟩ = pure ((["self", "number"] : List Str).zip us) := match us, hl with | [_, _], _ => rfl
theorem bd_Holder_wrong (kV doc pm : Value) (an : Option Addr) (cdv ct : Value) (us : List Value) (hl : us.length = (["self", "number", "misread"] : List Str).length) :
    bindArgs (PySem.W.fnOf "wrong" "Holder.wrong" (defArgs s_Holder_wrong) (defBody s_Holder_wrong) (defScope s_Holder_wrong) .none kV doc pm an cdv ct) ⟨us, []⟩ = pure ((["self", "number", "misread"] : List Str).zip us) := match us, hl with | [_, _, _], _ => rfl
theorem bd_Holder_is_true (kV doc pm : Value) (an : Option Addr) (cdv ct : Value) (us : List Value) (hl : us.length = (["self", "number"] : List Str).length) :
    bindArgs (PySem.W.fnOf "is_true" "Holder.is_true" (defArgs s_Holder_is_true) (defBody s_Holder_is_true) (defScope s_Holder_is_true) .none kV doc pm an cdv ct) ⟨us, []⟩ = pure ((["self", "number"] : List Str).zip us) := match us, hl with | [_, _], _ => rfl
theorem bd_Holder_held (kV doc pm : Value) (an : Option Addr) (cdv ct : Value) (us : List Value) (hl : us.length = (["self", "number"] : List Str).length) :
    bindArgs (PySem.W.fnOf "held" "Holder.held" (defArgs s_Holder_held) (defBody s_Holder_held) (defScope s_Holder_held) .none kV doc pm an cdv ct) ⟨us, []⟩ = pure ((["self", "number"] : List Str).zip us) := match us, hl with | [_, _], _ => rfl
theorem bd_Holder_right (kV doc pm : Value) (an : Option Addr) (cdv ct : Value) (us : List Value) (hl : us.length = (["self", "number"] : List Str).length) :
    bindArgs (PySem.W.fnOf "right" "Holder.right" (defArgs s_Holder_right) (defBody s_Holder_right) (defScope s_Holder_right) .none kV doc pm an cdv ct) ⟨us, []⟩ = pure ((["self", "number"] : List Str).zip us) := match us, hl with | [_, _], _ => rfl
theorem bd_Holder_pick (kV doc pm : Value) (an : Option Addr) (cdv ct : Value) (us : List Value) (hl : us.length = (["self", "number"] : List Str).length) :
    bindArgs (PySem.W.fnOf "pick" "Holder.pick" (defArgs s_Holder_pick) (defBody s_Holder_pick) (defScope s_Holder_pick) .none kV doc pm an cdv ct) ⟨us, []⟩ = pure ((["self", "number"] : List Str).zip us) := match us, hl with | [_, _], _ => rfl
theorem bd_Holder_way (kV doc pm : Value) (an : Option Addr) (cdv ct : Value) (us : List Value) (hl : us.length = (["self", "number"] : List Str).length) :
    bindArgs (PySem.W.fnOf "way" "Holder.way" (defArgs s_Holder_way) (defBody s_Holder_way) (defScope s_Holder_way) .none kV doc pm an cdv ct) ⟨us, []⟩ = pure ((["self", "number"] : List Str).zip us) := match us, hl with | [_, _], _ => rfl
theorem bd_Holder_by_picks (kV doc pm : Value) (an : Option Addr) (cdv ct : Value) (us : List Value) (hl : us.length = (["self", "number", "picks", "kind"] : List Str).length) :
    bindArgs (PySem.W.fnOf "by_picks" "Holder.by_picks" (defArgs s_Holder_by_picks) (defBody s_Holder_by_picks) (defScope s_Holder_by_picks) .none kV doc pm an cdv ct) ⟨us, []⟩ = pure ((["self", "number", "picks", "kind"] : List Str).zip us) := match us, hl with | [_, _, _, _], _ => rfl
theorem bd_Holder_by_say (kV doc pm : Value) (an : Option Addr) (cdv ct : Value) (us : List Value) (hl : us.length = (["self", "number", "picks"] : List Str).length) :
    bindArgs (PySem.W.fnOf "by_say" "Holder.by_say" (defArgs s_Holder_by_say) (defBody s_Holder_by_say) (defScope s_Holder_by_say) .none kV doc pm an cdv ct) ⟨us, []⟩ = pure ((["self", "number", "picks"] : List Str).zip us) := match us, hl with | [_, _, _], _ => rfl
theorem bd_Holder_by_doubt (kV doc pm : Value) (an : Option Addr) (cdv ct : Value) (us : List Value) (hl : us.length = (["self", "number", "picks"] : List Str).length) :
    bindArgs (PySem.W.fnOf "by_doubt" "Holder.by_doubt" (defArgs s_Holder_by_doubt) (defBody s_Holder_by_doubt) (defScope s_Holder_by_doubt) .none kV doc pm an cdv ct) ⟨us, []⟩ = pure ((["self", "number", "picks"] : List Str).zip us) := match us, hl with | [_, _, _], _ => rfl
theorem bd_Holder_proof (kV doc pm : Value) (an : Option Addr) (cdv ct : Value) (us : List Value) (hl : us.length = (["self", "number"] : List Str).length) :
    bindArgs (PySem.W.fnOf "proof" "Holder.proof" (defArgs s_Holder_proof) (defBody s_Holder_proof) (defScope s_Holder_proof) .none kV doc pm an cdv ct) ⟨us, []⟩ = pure ((["self", "number"] : List Str).zip us) := match us, hl with | [_, _], _ => rfl
theorem bd_Holder_leaves (kV doc pm : Value) (an : Option Addr) (cdv ct : Value) (us : List Value) (hl : us.length = (["self", "number"] : List Str).length) :
    bindArgs (PySem.W.fnOf "leaves" "Holder.leaves" (defArgs s_Holder_leaves) (defBody s_Holder_leaves) (defScope s_Holder_leaves) .none kV doc pm an cdv ct) ⟨us, []⟩ = pure ((["self", "number"] : List Str).zip us) := match us, hl with | [_, _], _ => rfl
theorem bd_Holder_matter (kV doc pm : Value) (an : Option Addr) (cdv ct : Value) (us : List Value) (hl : us.length = (["self", "number"] : List Str).length) :
    bindArgs (PySem.W.fnOf "matter" "Holder.matter" (defArgs s_Holder_matter) (defBody s_Holder_matter) (defScope s_Holder_matter) .none kV doc pm an cdv ct) ⟨us, []⟩ = pure ((["self", "number"] : List Str).zip us) := match us, hl with | [_, _], _ => rfl
theorem bd_Holder_if_wrong (kV doc pm : Value) (an : Option Addr) (cdv ct : Value) (us : List Value) (hl : us.length = (["self", "number", "leaf", "misread"] : List Str).length) :
    bindArgs (PySem.W.fnOf "if_wrong" "Holder.if_wrong" (defArgs s_Holder_if_wrong) (defBody s_Holder_if_wrong) (defScope s_Holder_if_wrong) .none kV doc pm an cdv ct) ⟨us, []⟩ = pure ((["self", "number", "leaf", "misread"] : List Str).zip us) := match us, hl with | [_, _, _, _], _ => rfl
theorem bd_Holder_if_flip (kV doc pm : Value) (an : Option Addr) (cdv ct : Value) (us : List Value) (hl : us.length = (["self", "number", "leaf"] : List Str).length) :
    bindArgs (PySem.W.fnOf "if_flip" "Holder.if_flip" (defArgs s_Holder_if_flip) (defBody s_Holder_if_flip) (defScope s_Holder_if_flip) .none kV doc pm an cdv ct) ⟨us, []⟩ = pure ((["self", "number", "leaf"] : List Str).zip us) := match us, hl with | [_, _, _], _ => rfl
theorem bd_Holder_best (kV doc pm : Value) (an : Option Addr) (cdv ct : Value) (us : List Value) (hl : us.length = (["self", "number"] : List Str).length) :
    bindArgs (PySem.W.fnOf "best" "Holder.best" (defArgs s_Holder_best) (defBody s_Holder_best) (defScope s_Holder_best) .none kV doc pm an cdv ct) ⟨us, []⟩ = pure ((["self", "number"] : List Str).zip us) := match us, hl with | [_, _], _ => rfl
theorem bd_Holder_depth (kV doc pm : Value) (an : Option Addr) (cdv ct : Value) (us : List Value) (hl : us.length = (["self", "number"] : List Str).length) :
    bindArgs (PySem.W.fnOf "depth" "Holder.depth" (defArgs s_Holder_depth) (defBody s_Holder_depth) (defScope s_Holder_depth) .none kV doc pm an cdv ct) ⟨us, []⟩ = pure ((["self", "number"] : List Str).zip us) := match us, hl with | [_, _], _ => rfl
theorem bd_Node_read_so (kV doc pm : Value) (an : Option Addr) (cdv ct : Value) (us : List Value) (hl : us.length = (["self"] : List Str).length) :
    bindArgs (PySem.W.fnOf "read_so" "Node.read_so" (defArgs s_Node_read_so) (defBody s_Node_read_so) (defScope s_Node_read_so) .none kV doc pm an cdv ct) ⟨us, []⟩ = pure ((["self"] : List Str).zip us) := match us, hl with | [_], _ => rfl
theorem bd_Keeper_answer (kV doc pm : Value) (an : Option Addr) (cdv ct : Value) (us : List Value) (hl : us.length = (["self", "call", "given"] : List Str).length) :
    bindArgs (PySem.W.fnOf "answer" "Keeper.answer" (defArgs s_Keeper_answer) (defBody s_Keeper_answer) (defScope s_Keeper_answer) .none kV doc pm an cdv ct) ⟨us, []⟩ = pure ((["self", "call", "given"] : List Str).zip us) := match us, hl with | [_, _, _], _ => rfl
theorem bd_Node_init (kV doc pm : Value) (an : Option Addr) (cdv ct : Value) (us : List Value) (hl : us.length = (["self", "kind", "is_so", "misread", "children"] : List Str).length) :
    bindArgs (PySem.W.fnOf "__init__" "Node.__init__" (defArgs s_Node_init) (defBody s_Node_init) (defScope s_Node_init) .none kV doc pm an cdv ct) ⟨us, []⟩ = pure ((["self", "kind", "is_so", "misread", "children"] : List Str).zip us) := match us, hl with | [_, _, _, _, _], _ => rfl
theorem bd_Holder_init (kV doc pm : Value) (an : Option Addr) (cdv ct : Value) (us : List Value) (hl : us.length = (["self"] : List Str).length) :
    bindArgs (PySem.W.fnOf "__init__" "Holder.__init__" (defArgs s_Holder_init) (defBody s_Holder_init) (defScope s_Holder_init) .none kV doc pm an cdv ct) ⟨us, []⟩ = pure ((["self"] : List Str).zip us) := match us, hl with | [_], _ => rfl
theorem bd_Keeper_init (kV doc pm : Value) (an : Option Addr) (cdv ct : Value) (us : List Value) (hl : us.length = (["self"] : List Str).length) :
    bindArgs (PySem.W.fnOf "__init__" "Keeper.__init__" (defArgs s_Keeper_init) (defBody s_Keeper_init) (defScope s_Keeper_init) .none kV doc pm an cdv ct) ⟨us, []⟩ = pure ((["self"] : List Str).zip us) := match us, hl with | [_], _ => rfl
theorem bd_Refused_init (kV doc pm : Value) (an : Option Addr) (cdv ct : Value) (us : List Value) (hl : us.length = (["self", "number"] : List Str).length) :
    bindArgs (PySem.W.fnOf "__init__" "Refused.__init__" (defArgs s_Refused_init) (defBody s_Refused_init) (defScope s_Refused_init) .none kV doc pm an cdv ct) ⟨us, []⟩ = pure ((["self", "number"] : List Str).zip us) := match us, hl with | [_, _], _ => rfl
section
variable {K : PySem.W.Frag} {h : Heap} {mg : Str → Option Value} {f : Addr} {oc : Value} {od an : Option Addr} {sl : Array (Option Value)} {kV dc pm cd ct : Value} {st : Stmt} {ps : List Str}
theorem gfun_of {x : Str} (X : K.In h) (G : h.Ns mainGlobals mg) (a : PySem.W.nsIn K mainGlobals x = some (some (.ref f)))
    (l : K.lookup f = some ⟨oc, od, .func (PySem.W.fnOf x x (defArgs st) (defBody st) (defScope st) .none kV dc pm an cd ct), sl⟩) (c : PySem.W.codeIn K cd x = true) (k : PySem.W.keepIn K (.ref f) = true)
    (b : ∀ (kV doc pm : Value) (an : Option Addr) (cdv ct : Value) (us : List Value), us.length = ps.length → bindArgs (PySem.W.fnOf x x (defArgs st) (defBody st) (defScope st) .none kV doc pm an cdv ct) ⟨us, []⟩ = pure (ps.zip us)) : GFun K mg x st ps :=
  have F := fun_mk (st := st) l c k
  ⟨f, _, PySem.W.mg_of X G a, k, F.binds (ps := ps) b, F⟩
/-- the def that is called, with its binding for any state -/
def AFun (K : PySem.W.Frag) (mg : Str → Option Value) (x : Str) (st : Stmt) (ps : List Str) : Prop :=
  ∃ (f : Addr) (fd : FuncData), mg x = some (.ref f) ∧ Fun K x x st f fd ∧ ∀ (s : Shared) (us : List Value), us.length = ps.length → BindsTo s fd ⟨us, []⟩ (ps.zip us)
theorem afun_of {x : Str} (X : K.In h) (G : h.Ns mainGlobals mg) (a : PySem.W.nsIn K mainGlobals x = some (some (.ref f)))
    (l : K.lookup f = some ⟨oc, od, .func (PySem.W.fnOf x x (defArgs st) (defBody st) (defScope st) .none kV dc pm an cd ct), sl⟩) (c : PySem.W.codeIn K cd x = true) (k : PySem.W.keepIn K (.ref f) = true)
    (b : ∀ (kV doc pm : Value) (an : Option Addr) (cdv ct : Value) (us : List Value), us.length = ps.length → bindArgs (PySem.W.fnOf x x (defArgs st) (defBody st) (defScope st) .none kV doc pm an cdv ct) ⟨us, []⟩ = pure (ps.zip us)) : AFun K mg x st ps :=
  ⟨f, _, PySem.W.mg_of X G a, fun_mk (st := st) l c k, fun s us hu => .of_eq (b _ _ _ _ _ _ us hu)⟩
theorem mfun_of {C : Addr} {cn m q : Str} (hq : q = cn ++ "." ++ m) (a : PySem.W.findIn K (.ref C) m = some (some (.ref f))) (i : PySem.W.isFn K (.ref f) = true)
    (l : K.lookup f = some ⟨oc, od, .func (PySem.W.fnOf m q (defArgs st) (defBody st) (defScope st) .none kV dc pm an cd ct), sl⟩) (c : PySem.W.codeIn K cd q = true) (k : PySem.W.keepIn K (.ref f) = true)
    (b : ∀ (kV doc pm : Value) (an : Option Addr) (cdv ct : Value) (us : List Value), us.length = ps.length → bindArgs (PySem.W.fnOf m q (defArgs st) (defBody st) (defScope st) .none kV doc pm an cdv ct) ⟨us, []⟩ = pure (ps.zip us)) : MFun K C cn m st ps := by
  subst hq
  have F := fun_mk (st := st) l c k
  exact ⟨f, _, ⟨a, i, k⟩, F.binds (ps := ps) b, F⟩
theorem cfun_of {C : Addr} {cn q : Str} (hq : q = cn ++ ".__init__") (X : K.In h) (G : h.Ns mainGlobals mg) (g : PySem.W.nsIn K mainGlobals cn = some (some (.ref C))) (mk : PySem.W.makesIn K C = true) (kc : PySem.W.keepIn K (.ref C) = true)
    (a : PySem.W.findIn K (.ref C) "__init__" = some (some (.ref f))) (i : PySem.W.isFn K (.ref f) = true)
    (l : K.lookup f = some ⟨oc, od, .func (PySem.W.fnOf "__init__" q (defArgs st) (defBody st) (defScope st) .none kV dc pm an cd ct), sl⟩) (c : PySem.W.codeIn K cd q = true) (k : PySem.W.keepIn K (.ref f) = true)
    (b : ∀ (kV doc pm : Value) (an : Option Addr) (cdv ct : Value) (us : List Value), us.length = ps.length → bindArgs (PySem.W.fnOf "__init__" q (defArgs st) (defBody st) (defScope st) .none kV doc pm an cdv ct) ⟨us, []⟩ = pure (ps.zip us)) : CFun K mg C cn st ps := by
  subst hq
  have F := fun_mk (st := st) l c k
  exact ⟨f, _, PySem.W.mg_of X G g, ⟨mk, a, i, kc⟩, F.binds (ps := ps) b, F⟩
theorem rfun_of {C : Addr} (a : PySem.W.findIn K (.ref C) "__init__" = some (some (.ref f))) (t : PySem.W.typeIn K (.ref f) = some (.type "function"))
    (l : K.lookup f = some ⟨oc, od, .func (PySem.W.fnOf "__init__" "Refused.__init__" (defArgs st) (defBody st) (defScope st) .none kV dc pm an cd ct), sl⟩) (c : PySem.W.codeIn K cd "Refused.__init__" = true) (k : PySem.W.keepIn K (.ref f) = true)
    (b : ∀ (kV doc pm : Value) (an : Option Addr) (cdv ct : Value) (us : List Value), us.length = (["self", "number"] : List Str).length → bindArgs (PySem.W.fnOf "__init__" "Refused.__init__" (defArgs st) (defBody st) (defScope st) .none kV doc pm an cdv ct) ⟨us, []⟩ = pure ((["self", "number"] : List Str).zip us)) : RFun K C st :=
  have F := fun_mk (st := st) l c k
  ⟨f, _, a, t, F.binds (ps := ["self", "number"]) b, F⟩
theorem cI_of {x : Str} {n : Int} {t : Tok} (X : K.In h) (G : h.Ns mainGlobals mg) (a : PySem.W.nsIn K mainGlobals x = some (some (.int n t))) : ∃ t, mg x = some (.int n t) := ⟨t, PySem.W.mg_of X G a⟩
/-- an error of the class at S is what «except S» names -/
theorem exm_self {S : Addr} (h1 : PySem.W.subIn K (.ref S) (.type "BaseException") = some true) (h2 : PySem.W.isClsIn K S = true) (h3 : PySem.W.typeIn K (.ref S) = some (.type "type")) (h4 : PySem.W.subIn K (.ref S) (.ref S) = some true) :
    PySem.W.exmOne K (.ref S) (.ref S) = some true := by
  have e1 : (PySem.W.subIn K (.ref S) (.type "BaseException") == some true) = true := by rw [h1] <;> rfl
  have e2 : ((PySem.W.clsIn K S).isSome && PySem.W.typeIn K (.ref S) == some (.type "type")) = true := by
    have h2' : (PySem.W.clsIn K S).isSome = true := h2
    rw [h2', h3] <;> rfl
  show (if (PySem.W.subIn K (.ref S) (.type "BaseException") == some true) = true then (if ((PySem.W.clsIn K S).isSome && PySem.W.typeIn K (.ref S) == some (.type "type")) = true then PySem.W.subIn K (.ref S) (.ref S) else none) else none) = some true
  rw [if_pos e1, if_pos e2]
  exact h4
theorem oex_of {C : Addr} {nm q : Str} {N : Addr} {bs bm : List Value} {sn : List Str} {sub : List Value} {ab : Bool} {col : Option Bool} {dd : Option Addr} {m0 m1 m2 m3 m5 : Option Value}
    (xL : K.lookup C = some (excClassObj nm q C N bs bm true sn sub ab col dd m0 m1 m2 m3 m5 "ValueError.__new__")) (hb : PySem.HandSPX.refsVE bm = true)
    (sa : PySem.W.findIn K (.ref C) "__setattr__" = some (some (.builtin "object.__setattr__"))) (eC : PySem.W.subIn K (.ref C) (.type "BaseException") = some true) (tC : PySem.W.typeIn K (.ref C) = some (.type "type")) (kC : PySem.W.keepIn K (.ref C) = true) : OexC K C :=
  ⟨⟨nm, q, N, bs, bm, sn, sub, ab, col, dd, m0, m1, m2, m3, m5, xL, hb⟩, sa, eC, tC, kC⟩
theorem cls_of {C : Addr} (pg : PySem.W.plainGet K C Str.empty = true) (hd : PySem.W.hasDictIn K C = true) (po : PySem.W.plainOver K C = true) (sa : PySem.W.findIn K (.ref C) "__setattr__" = some (some (.builtin "object.__setattr__"))) : Cls K C := ⟨pg, hd, po, sa⟩
/-- the table of deeds -/
theorem deed_of {dd : Addr} {x : Str} {k : Int} {n : Nat} {es : Array DictEntry} (X : K.In h) (G : h.Ns mainGlobals mg) (l : K.lookup dd = some ⟨.type "dict", none, .dict es n, #[]⟩) (he : ∀ e ∈ es.toList, ∃ (k : Int) (t : Tok), e.key = .int k t ∧ e.hash = hashInt k)
    (hf : findBy Value.isInt es k = some (.ref f)) (a : PySem.W.nsIn K mainGlobals x = some (some (.ref f))) : Deed K mg dd k x :=
  ⟨f, PySem.W.mg_of X G a, es, n, _, l, fun e hm => he e (Array.mem_toList_iff.mpr hm), hf, rfl⟩
end
theorem deeds_of {K : PySem.W.Frag} {h : Heap} {mg : Str → Option Value} {dd : Addr} {n : Nat} {t1 t2 t3 t4 t5 t6 t7 t8 t9 t10 t11 t12 t13 t14 t15 t16 t17 t18 t19 t20 t21 : Tok} {d1 d2 d3 d4 d5 d6 d7 d8 d9 d10 d11 d12 d13 d14 d15 d16 d17 d18 d19 d20 d21 : Addr} (X : K.In h) (G : h.Ns mainGlobals mg) (l : K.lookup dd = some ⟨.type "dict", none, .dict #[⟨1, .int 1 t1, .ref d1⟩, ⟨2, .int 2 t2, .ref d2⟩, ⟨3, .int 3 t3, .ref d3⟩, ⟨4, .int 4 t4, .ref d4⟩, ⟨5, .int 5 t5, .ref d5⟩, ⟨6, .int 6 t6, .ref d6⟩, ⟨7, .int 7 t7, .ref d7⟩, ⟨8, .int 8 t8, .ref d8⟩, ⟨9, .int 9 t9, .ref d9⟩, ⟨10, .int 10 t10, .ref d10⟩, ⟨11, .int 11 t11, .ref d11⟩, ⟨12, .int 12 t12, .ref d12⟩, ⟨13, .int 13 t13, .ref d13⟩, ⟨14, .int 14 t14, .ref d14⟩, ⟨15, .int 15 t15, .ref d15⟩, ⟨16, .int 16 t16, .ref d16⟩, ⟨17, .int 17 t17, .ref d17⟩, ⟨18, .int 18 t18, .ref d18⟩, ⟨19, .int 19 t19, .ref d19⟩, ⟨20, .int 20 t20, .ref d20⟩, ⟨21, .int 21 t21, .ref d21⟩] n, #[]⟩)
    (a1 : PySem.W.nsIn K mainGlobals "leaf" = some (some (.ref d1)))
    (a2 : PySem.W.nsIn K mainGlobals "all_of" = some (some (.ref d2)))
    (a3 : PySem.W.nsIn K mainGlobals "some" = some (some (.ref d3)))
    (a4 : PySem.W.nsIn K mainGlobals "pop" = some (some (.ref d4)))
    (a5 : PySem.W.nsIn K mainGlobals "node_is" = some (some (.ref d5)))
    (a6 : PySem.W.nsIn K mainGlobals "flip" = some (some (.ref d6)))
    (a7 : PySem.W.nsIn K mainGlobals "wrong" = some (some (.ref d7)))
    (a8 : PySem.W.nsIn K mainGlobals "is_true" = some (some (.ref d8)))
    (a9 : PySem.W.nsIn K mainGlobals "held" = some (some (.ref d9)))
    (a10 : PySem.W.nsIn K mainGlobals "right" = some (some (.ref d10)))
    (a11 : PySem.W.nsIn K mainGlobals "pick" = some (some (.ref d11)))
    (a12 : PySem.W.nsIn K mainGlobals "way" = some (some (.ref d12)))
    (a13 : PySem.W.nsIn K mainGlobals "by_say" = some (some (.ref d13)))
    (a14 : PySem.W.nsIn K mainGlobals "by_doubt" = some (some (.ref d14)))
    (a15 : PySem.W.nsIn K mainGlobals "proof" = some (some (.ref d15)))
    (a16 : PySem.W.nsIn K mainGlobals "leaves" = some (some (.ref d16)))
    (a17 : PySem.W.nsIn K mainGlobals "matter" = some (some (.ref d17)))
    (a18 : PySem.W.nsIn K mainGlobals "if_wrong" = some (some (.ref d18)))
    (a19 : PySem.W.nsIn K mainGlobals "if_flip" = some (some (.ref d19)))
    (a20 : PySem.W.nsIn K mainGlobals "best" = some (some (.ref d20)))
    (a21 : PySem.W.nsIn K mainGlobals "depth" = some (some (.ref d21)))
    : DTxt K mg dd := by
  have he : ∀ e ∈ ([⟨1, .int 1 t1, .ref d1⟩, ⟨2, .int 2 t2, .ref d2⟩, ⟨3, .int 3 t3, .ref d3⟩, ⟨4, .int 4 t4, .ref d4⟩, ⟨5, .int 5 t5, .ref d5⟩, ⟨6, .int 6 t6, .ref d6⟩, ⟨7, .int 7 t7, .ref d7⟩, ⟨8, .int 8 t8, .ref d8⟩, ⟨9, .int 9 t9, .ref d9⟩, ⟨10, .int 10 t10, .ref d10⟩, ⟨11, .int 11 t11, .ref d11⟩, ⟨12, .int 12 t12, .ref d12⟩, ⟨13, .int 13 t13, .ref d13⟩, ⟨14, .int 14 t14, .ref d14⟩, ⟨15, .int 15 t15, .ref d15⟩, ⟨16, .int 16 t16, .ref d16⟩, ⟨17, .int 17 t17, .ref d17⟩, ⟨18, .int 18 t18, .ref d18⟩, ⟨19, .int 19 t19, .ref d19⟩, ⟨20, .int 20 t20, .ref d20⟩, ⟨21, .int 21 t21, .ref d21⟩] : List DictEntry), ∃ (k : Int) (t : Tok), e.key = .int k t ∧ e.hash = hashInt k := by
    simp only [List.mem_cons, List.not_mem_nil, or_false, forall_eq_or_imp, forall_eq]
    refine ⟨⟨_, _, rfl, by decide +kernel⟩, ⟨_, _, rfl, by decide +kernel⟩, ⟨_, _, rfl, by decide +kernel⟩, ⟨_, _, rfl, by decide +kernel⟩, ⟨_, _, rfl, by decide +kernel⟩, ⟨_, _, rfl, by decide +kernel⟩, ⟨_, _, rfl, by decide +kernel⟩, ⟨_, _, rfl, by decide +kernel⟩, ⟨_, _, rfl, by decide +kernel⟩, ⟨_, _, rfl, by decide +kernel⟩, ⟨_, _, rfl, by decide +kernel⟩, ⟨_, _, rfl, by decide +kernel⟩, ⟨_, _, rfl, by decide +kernel⟩, ⟨_, _, rfl, by decide +kernel⟩, ⟨_, _, rfl, by decide +kernel⟩, ⟨_, _, rfl, by decide +kernel⟩, ⟨_, _, rfl, by decide +kernel⟩, ⟨_, _, rfl, by decide +kernel⟩, ⟨_, _, rfl, by decide +kernel⟩, ⟨_, _, rfl, by decide +kernel⟩, ⟨_, _, rfl, by decide +kernel⟩⟩
  exact ⟨deed_of X G l he (by rfl) a1, deed_of X G l he (by rfl) a2, deed_of X G l he (by rfl) a3, deed_of X G l he (by rfl) a4, deed_of X G l he (by rfl) a5, deed_of X G l he (by rfl) a6, deed_of X G l he (by rfl) a7, deed_of X G l he (by rfl) a8, deed_of X G l he (by rfl) a9, deed_of X G l he (by rfl) a10, deed_of X G l he (by rfl) a11, deed_of X G l he (by rfl) a12, deed_of X G l he (by rfl) a13, deed_of X G l he (by rfl) a14, deed_of X G l he (by rfl) a15, deed_of X G l he (by rfl) a16, deed_of X G l he (by rfl) a17, deed_of X G l he (by rfl) a18, deed_of X G l he (by rfl) a19, deed_of X G l he (by rfl) a20, deed_of X G l he (by rfl) a21⟩
theorem all_mk {P : Program} {w : World} {K : PySem.W.Frag} {mg : Str → Option Value} {fa CN CR CH CK dd : Addr} (hfa : mg "answers" = some (.ref fa)) (T : Txt K mg CN CR CH CK) (hDeeds : mg "DEEDS" = some (.ref dd)) (D : DTxt K mg dd) (R : RFun K CR s_Refused_init)
    (c_Node : CFun K mg CN "Node" s_Node_init ["self", "kind", "is_so", "misread", "children"]) (c_Holder : CFun K mg CH "Holder" s_Holder_init ["self"]) (c_Keeper : CFun K mg CK "Keeper" s_Keeper_init ["self"])
    (m_read_so : MFun K CN "Node" "read_so" s_Node_read_so ["self"]) (m_answer : MFun K CK "Keeper" "answer" s_Keeper_answer ["self", "call", "given"]) (a_answers : AFun K mg "answers" s_answers ["calls"])
    (g_new_leaf : GFun K mg "new_leaf" s_new_leaf ["is_so", "misread"])
    (g_put_at : GFun K mg "put_at" s_put_at ["tree", "number", "node"])
    (g_flipped : GFun K mg "flipped" s_flipped ["tree", "number"])
    (g_misread_so : GFun K mg "misread_so" s_misread_so ["tree", "number", "misread"])
    (g_truths : GFun K mg "truths" s_truths ["tree"])
    (g_leaves_of : GFun K mg "leaves_of" s_leaves_of ["tree", "number"])
    (g_joined : GFun K mg "joined" s_joined ["rows"])
    (g_depth_of : GFun K mg "depth_of" s_depth_of ["tree", "number"])
    (g_proof_of : GFun K mg "proof_of" s_proof_of ["tree", "number"])
    (g_shortest : GFun K mg "shortest" s_shortest ["rows"])
    (g_matters : GFun K mg "matters" s_matters ["tree", "number"])
    (g_held_all : GFun K mg "held_all" s_held_all ["tree"])
    (g_held_by : GFun K mg "held_by" s_held_by ["tree", "picks", "told_kind"])
    (g_are_picks : GFun K mg "are_picks" s_are_picks ["tree", "picks", "told_kind"])
    (g_is_pick : GFun K mg "is_pick" s_is_pick ["node", "pick", "told_kind"])
    (g_right_wins : GFun K mg "right_wins" s_right_wins ["tree", "number"])
    (g_picked : GFun K mg "picked" s_picked ["tree", "number"])
    (g_way_from : GFun K mg "way_from" s_way_from ["tree", "number"])
    (g_best_leaf : GFun K mg "best_leaf" s_best_leaf ["tree", "number"])
    (g_need : GFun K mg "need" s_need ["is_so", "number"])
    (g_divisor : GFun K mg "divisor" s_divisor ["one", "other"])
    (g_fraction : GFun K mg "fraction" s_fraction ["hundredths"])
    (g_counted : GFun K mg "counted" s_counted ["numbers"])
    (g_leaf : GFun K mg "leaf" s_leaf ["holder", "given"])
    (g_all_of : GFun K mg "all_of" s_all_of ["holder", "given"])
    (g_some : GFun K mg "some" s_some ["holder", "given"])
    (g_pop : GFun K mg "pop" s_pop ["holder", "given"])
    (g_node_is : GFun K mg "node_is" s_node_is ["holder", "given"])
    (g_flip : GFun K mg "flip" s_flip ["holder", "given"])
    (g_wrong : GFun K mg "wrong" s_wrong ["holder", "given"])
    (g_is_true : GFun K mg "is_true" s_is_true ["holder", "given"])
    (g_held : GFun K mg "held" s_held ["holder", "given"])
    (g_right : GFun K mg "right" s_right ["holder", "given"])
    (g_pick : GFun K mg "pick" s_pick ["holder", "given"])
    (g_way : GFun K mg "way" s_way ["holder", "given"])
    (g_by_say : GFun K mg "by_say" s_by_say ["holder", "given"])
    (g_by_doubt : GFun K mg "by_doubt" s_by_doubt ["holder", "given"])
    (g_proof : GFun K mg "proof" s_proof ["holder", "given"])
    (g_leaves : GFun K mg "leaves" s_leaves ["holder", "given"])
    (g_matter : GFun K mg "matter" s_matter ["holder", "given"])
    (g_if_wrong : GFun K mg "if_wrong" s_if_wrong ["holder", "given"])
    (g_if_flip : GFun K mg "if_flip" s_if_flip ["holder", "given"])
    (g_best : GFun K mg "best" s_best ["holder", "given"])
    (g_depth : GFun K mg "depth" s_depth ["holder", "given"])
    (m_need_node : MFun K CH "Holder" "need_node" s_Holder_need_node ["self", "number"])
    (m_need_leaf : MFun K CH "Holder" "need_leaf" s_Holder_need_leaf ["self", "number"])
    (m_need_leaf_of : MFun K CH "Holder" "need_leaf_of" s_Holder_need_leaf_of ["self", "number", "leaf"])
    (m_put : MFun K CH "Holder" "put" s_Holder_put ["self", "node"])
    (m_leaf : MFun K CH "Holder" "leaf" s_Holder_leaf ["self", "so", "misread"])
    (m_are_free : MFun K CH "Holder" "are_free" s_Holder_are_free ["self", "row"])
    (m_above : MFun K CH "Holder" "above" s_Holder_above ["self", "kind", "row"])
    (m_pop : MFun K CH "Holder" "pop" s_Holder_pop ["self"])
    (m_node_is : MFun K CH "Holder" "node_is" s_Holder_node_is ["self", "number"])
    (m_flip : MFun K CH "Holder" "flip" s_Holder_flip ["self", "number"])
    (m_wrong : MFun K CH "Holder" "wrong" s_Holder_wrong ["self", "number", "misread"])
    (m_is_true : MFun K CH "Holder" "is_true" s_Holder_is_true ["self", "number"])
    (m_held : MFun K CH "Holder" "held" s_Holder_held ["self", "number"])
    (m_right : MFun K CH "Holder" "right" s_Holder_right ["self", "number"])
    (m_pick : MFun K CH "Holder" "pick" s_Holder_pick ["self", "number"])
    (m_way : MFun K CH "Holder" "way" s_Holder_way ["self", "number"])
    (m_by_picks : MFun K CH "Holder" "by_picks" s_Holder_by_picks ["self", "number", "picks", "kind"])
    (m_by_say : MFun K CH "Holder" "by_say" s_Holder_by_say ["self", "number", "picks"])
    (m_by_doubt : MFun K CH "Holder" "by_doubt" s_Holder_by_doubt ["self", "number", "picks"])
    (m_proof : MFun K CH "Holder" "proof" s_Holder_proof ["self", "number"])
    (m_leaves : MFun K CH "Holder" "leaves" s_Holder_leaves ["self", "number"])
    (m_matter : MFun K CH "Holder" "matter" s_Holder_matter ["self", "number"])
    (m_if_wrong : MFun K CH "Holder" "if_wrong" s_Holder_if_wrong ["self", "number", "leaf", "misread"])
    (m_if_flip : MFun K CH "Holder" "if_flip" s_Holder_if_flip ["self", "number", "leaf"])
    (m_best : MFun K CH "Holder" "best" s_Holder_best ["self", "number"])
    (m_depth : MFun K CH "Holder" "depth" s_Holder_depth ["self", "number"])
    : ∃ fd : FuncData, (∀ (s : Shared) (us : List Value), us.length = (["calls"] : List Str).length → BindsTo s fd ⟨us, []⟩ ((["calls"] : List Str).zip us)) ∧ ∀ base : Heap, K.In base → base.Ns mainGlobals mg → FnOk P w K mg base CX0 9 fa fd ["calls"] (spAns K) := by
  obtain ⟨f, fd, hf, F, hb⟩ := a_answers
  rw [hfa] at hf
  cases hf
  refine ⟨fd, hb, fun base _ _ => ?_⟩
  have G_Node := ok_Node (P := P) (w := w) (base := base) T c_Node
  have M_read_so := ok_read_so (P := P) (w := w) (base := base) T m_read_so
  have G_new_leaf := ok_new_leaf T g_new_leaf G_Node
  have G_put_at := ok_put_at (P := P) (w := w) (base := base) T g_put_at
  have G_flipped := ok_flipped T g_flipped G_put_at G_new_leaf
  have G_misread_so := ok_misread_so T g_misread_so G_put_at G_new_leaf
  have G_truths := ok_truths (P := P) (w := w) (base := base) T g_truths
  have G_joined := ok_joined (P := P) (w := w) (base := base) T g_joined
  have G_leaves_of := ok_leaves_of T g_leaves_of G_joined
  have G_depth_of := ok_depth_of (P := P) (w := w) (base := base) T g_depth_of
  have G_shortest := ok_shortest (P := P) (w := w) (base := base) T g_shortest
  have G_proof_of := ok_proof_of T g_proof_of G_truths G_joined G_shortest
  have G_matters := ok_matters T g_matters G_truths G_leaves_of G_flipped
  have G_held_all := ok_held_all T g_held_all M_read_so
  have G_held_by := ok_held_by T g_held_by M_read_so
  have G_is_pick := ok_is_pick (P := P) (w := w) (base := base) T g_is_pick
  have G_are_picks := ok_are_picks T g_are_picks G_is_pick
  have G_right_wins := ok_right_wins T g_right_wins G_held_all G_truths
  have G_picked := ok_picked T g_picked G_held_all
  have G_way_from := ok_way_from T g_way_from G_picked
  have G_best_leaf := ok_best_leaf T g_best_leaf G_right_wins G_leaves_of G_misread_so
  have G_need := ok_need (P := P) (w := w) (base := base) T R g_need
  have G_divisor := ok_divisor (P := P) (w := w) (base := base) T g_divisor
  have G_fraction := ok_fraction T g_fraction G_divisor
  have G_counted := ok_counted (P := P) (w := w) (base := base) T g_counted
  have G_Holder := ok_Holder (P := P) (w := w) (base := base) T c_Holder
  have M_need_node := ok_need_node T m_need_node G_need
  have M_need_leaf := ok_need_leaf T m_need_leaf G_need
  have M_need_leaf_of := ok_need_leaf_of T m_need_leaf_of G_need G_leaves_of
  have M_put := ok_put T m_put G_need
  have M_leaf := ok_leaf T m_leaf G_need G_new_leaf M_put
  have M_are_free := ok_are_free T m_are_free G_joined
  have M_above := ok_above T m_above G_need G_Node M_are_free M_put
  have M_pop := ok_pop T m_pop G_need
  have M_node_is := ok_node_is T m_node_is M_need_node
  have M_flip := ok_flip T m_flip M_need_node M_need_leaf G_flipped
  have M_wrong := ok_wrong T m_wrong G_need M_need_node M_need_leaf G_misread_so
  have M_is_true := ok_is_true_m T m_is_true M_need_node G_truths
  have M_held := ok_held_m T m_held M_need_node G_fraction G_held_all
  have M_right := ok_right_m T m_right M_need_node G_fraction G_right_wins
  have M_pick := ok_pick_m T m_pick G_need M_need_node G_picked
  have M_way := ok_way_m T m_way M_need_node G_counted G_way_from
  have M_by_picks := ok_by_picks_m T m_by_picks G_need M_need_node G_fraction G_are_picks G_held_by
  have M_by_say := ok_by_say_m T m_by_say M_by_picks
  have M_by_doubt := ok_by_doubt_m T m_by_doubt M_by_picks
  have M_proof := ok_proof_m T m_proof M_need_node G_counted G_proof_of
  have M_leaves := ok_leaves_m T m_leaves M_need_node G_counted G_leaves_of
  have M_matter := ok_matter_m T m_matter M_need_node G_counted G_matters
  have M_if_wrong := ok_if_wrong_m T m_if_wrong G_need M_need_node M_need_leaf_of G_fraction G_right_wins G_misread_so
  have M_if_flip := ok_if_flip_m T m_if_flip M_need_node M_need_leaf_of G_truths G_flipped
  have M_best := ok_best_m T m_best G_need M_need_node G_fraction G_best_leaf
  have M_depth := ok_depth_m T m_depth M_need_node G_depth_of
  have G_Keeper := ok_Keeper (P := P) (w := w) (base := base) T c_Keeper
  have DD : Deeds P w K mg base CN CH CR :=
    ⟨deed_leaf T g_leaf M_leaf, deed_all_of T g_all_of M_above, deed_some T g_some M_above, deed_pop T g_pop M_pop, deed_node_is T g_node_is M_node_is, deed_flip T g_flip M_flip, deed_wrong T g_wrong M_wrong, deed_is_true T g_is_true M_is_true, deed_held T g_held M_held, deed_right T g_right M_right, deed_pick T g_pick M_pick, deed_way T g_way M_way, deed_by_say T g_by_say M_by_say, deed_by_doubt T g_by_doubt M_by_doubt, deed_proof T g_proof M_proof, deed_leaves T g_leaves M_leaves, deed_matter T g_matter M_matter, deed_if_wrong T g_if_wrong M_if_wrong, deed_if_flip T g_if_flip M_if_flip, deed_best T g_best M_best, deed_depth T g_depth M_depth⟩
  have M_answer := ok_answer T hDeeds D DD m_answer G_need G_Holder
  exact ok_answers T F G_Keeper M_answer
end Dis
end
set_option linter.all false
open PySem PySem.W PyProof.Rows
set_option maxRecDepth 100000 in
set_option maxHeartbeats 0 in
theorem PySem.Challenge.cw_disputed_s01_answers_holds : PySem.Challenge.rw_disputed_s01_answers.Holds := by
  w_on; k_headS; (case hw => exact ⟨[.list [.int 0, .int 0, .int 0]], by decide +kernel, by decide +kernel⟩)
  k_fillS
  refine L2.walk_specK (r := PySem.Challenge.rw_disputed_s01_answers) (k := 9) (CX := L2.CX0) (ps := ["calls"]) (sp := Dis.spAns) (by decide +kernel) rfl rfl ⟨rfl, by decide, by decide⟩ (fun w h Y => PySem.W.kIn_of Y) ?F ?S (fun _ _ _ _ z => z)
  case F =>
    intro w mg fa h Y KX G hmg
    have R0 := KX
    refine' Dis.all_mk hmg ?tt ?dg ?dx ?rr ?cN ?cH ?cK ?mS ?mA ?aa ?g_new_leaf ?g_put_at ?g_flipped ?g_misread_so ?g_truths ?g_leaves_of ?g_joined ?g_depth_of ?g_proof_of ?g_shortest ?g_matters ?g_held_all ?g_held_by ?g_are_picks ?g_is_pick ?g_right_wins ?g_picked ?g_way_from ?g_best_leaf ?g_need ?g_divisor ?g_fraction ?g_counted ?g_leaf ?g_all_of ?g_some ?g_pop ?g_node_is ?g_flip ?g_wrong ?g_is_true ?g_held ?g_right ?g_pick ?g_way ?g_by_say ?g_by_doubt ?g_proof ?g_leaves ?g_matter ?g_if_wrong ?g_if_flip ?g_best ?g_depth ?m_need_node ?m_need_leaf ?m_need_leaf_of ?m_put ?m_leaf ?m_are_free ?m_above ?m_pop ?m_node_is ?m_flip ?m_wrong ?m_is_true ?m_held ?m_right ?m_pick ?m_way ?m_by_picks ?m_by_say ?m_by_doubt ?m_proof ?m_leaves ?m_matter ?m_if_wrong ?m_if_flip ?m_best ?m_depth
    case cN =>
      refine' Dis.cfun_of (q := "Node.__init__") (by decide +kernel) KX G ?cN_g ?cN_mk ?cN_kc ?cN_a ?cN_i ?cN_l ?cN_c ?cN_k Dis.bd_Node_init
      (case cN_g => k_is); (case cN_mk => k_is); (case cN_kc => k_is); (case cN_a => k_is); (case cN_i => k_is); (case cN_l => k_is); (case cN_c => k_is); (case cN_k => k_is)
    case cH =>
      refine' Dis.cfun_of (q := "Holder.__init__") (by decide +kernel) KX G ?cH_g ?cH_mk ?cH_kc ?cH_a ?cH_i ?cH_l ?cH_c ?cH_k Dis.bd_Holder_init
      (case cH_g => k_is); (case cH_mk => k_is); (case cH_kc => k_is); (case cH_a => k_is); (case cH_i => k_is); (case cH_l => k_is); (case cH_c => k_is); (case cH_k => k_is)
    case cK =>
      refine' Dis.cfun_of (q := "Keeper.__init__") (by decide +kernel) KX G ?cK_g ?cK_mk ?cK_kc ?cK_a ?cK_i ?cK_l ?cK_c ?cK_k Dis.bd_Keeper_init
      (case cK_g => k_is); (case cK_mk => k_is); (case cK_kc => k_is); (case cK_a => k_is); (case cK_i => k_is); (case cK_l => k_is); (case cK_c => k_is); (case cK_k => k_is)
    case tt =>
      refine' { LEAF := Dis.cI_of KX G ?c1, ALL := Dis.cI_of KX G ?c2, SOME := Dis.cI_of KX G ?c3, WHOLE := Dis.cI_of KX G ?c4, NOSUCH := Dis.cI_of KX G ?c5, EMPTY := Dis.cI_of KX G ?c6, NOTBEGUN := Dis.cI_of KX G ?c7, NOTRIGHT := Dis.cI_of KX G ?c8, TOOMANY := Dis.cI_of KX G ?c9, NOLEAF := Dis.cI_of KX G ?c10, MOSTN := Dis.cI_of KX G ?c11, MOSTC := Dis.cI_of KX G ?c12, BEGIN := Dis.cI_of KX G ?c13, all := PySem.W.mg_none_of KX G ?b1, any := PySem.W.mg_none_of KX G ?b2, max := PySem.W.mg_none_of KX G ?b3, min := PySem.W.mg_none_of KX G ?b4, len := PySem.W.mg_none_of KX G ?b5, set := PySem.W.mg_none_of KX G ?b6, zip := PySem.W.mg_none_of KX G ?b7, enumerate := PySem.W.mg_none_of KX G ?b8, int := PySem.W.mg_none_of KX G ?b9, valueError := PySem.W.mg_none_of KX G ?b10, clN := Dis.cls_of ?n1 ?n2 ?n3 ?n4, nKind := ?n5, nSo := ?n6, nMis := ?n7, nKids := ?n8, clH := Dis.cls_of ?q1 ?q2 ?q3 ?q4, nTree := ?q5, clK := Dis.cls_of ?k1 ?k2 ?k3 ?k4, nHolder := ?k5, gR := PySem.W.mg_of KX G ?r1, oR := Dis.oex_of ?r2 ?r3 ?r4 ?r5 ?r6 ?r7, xR := ⟨?x1, ?x2, ?x3, ?x4⟩, nNumber := ?x5, teR := Dis.exm_self ?e1 ?e2 ?e3 ?e4, veI := ?v1 }
      (case c1 => k_is); (case c2 => k_is); (case c3 => k_is); (case c4 => k_is); (case c5 => k_is); (case c6 => k_is); (case c7 => k_is); (case c8 => k_is); (case c9 => k_is); (case c10 => k_is); (case c11 => k_is); (case c12 => k_is); (case c13 => k_is)
      (case b1 => k_is); (case b2 => k_is); (case b3 => k_is); (case b4 => k_is); (case b5 => k_is); (case b6 => k_is); (case b7 => k_is); (case b8 => k_is); (case b9 => k_is); (case b10 => k_is)
      (case n1 => k_is); (case n2 => k_is); (case n3 => k_is); (case n4 => k_is); (case n5 => unfold L2.NoAttr; k_is); (case n6 => unfold L2.NoAttr; k_is); (case n7 => unfold L2.NoAttr; k_is); (case n8 => unfold L2.NoAttr; k_is)
      (case q1 => k_is); (case q2 => k_is); (case q3 => k_is); (case q4 => k_is); (case q5 => unfold L2.NoAttr; k_is)
      (case k1 => k_is); (case k2 => k_is); (case k3 => k_is); (case k4 => k_is); (case k5 => unfold L2.NoAttr; k_is)
      (case r1 => k_is); (case r2 => k_is); (case r3 => decide +kernel); (case r4 => k_is); (case r5 => k_is); (case r6 => k_is); (case r7 => k_is)
      (case x1 => k_is); (case x2 => k_is); (case x3 => k_is); (case x4 => k_is); (case x5 => k_is)
      (case e1 => k_is); (case e2 => k_is); (case e3 => k_is); (case e4 => first | rfl | k_is); (case v1 => k_is)
    (case dg => refine' PySem.W.mg_of KX G ?dgg; (case dgg => k_is))
    case dx =>
      refine' Dis.deeds_of KX G ?dx_l ?dx_1 ?dx_2 ?dx_3 ?dx_4 ?dx_5 ?dx_6 ?dx_7 ?dx_8 ?dx_9 ?dx_10 ?dx_11 ?dx_12 ?dx_13 ?dx_14 ?dx_15 ?dx_16 ?dx_17 ?dx_18 ?dx_19 ?dx_20 ?dx_21
      (case dx_l => k_is); (case dx_1 => k_is); (case dx_2 => k_is); (case dx_3 => k_is); (case dx_4 => k_is); (case dx_5 => k_is); (case dx_6 => k_is); (case dx_7 => k_is); (case dx_8 => k_is); (case dx_9 => k_is); (case dx_10 => k_is); (case dx_11 => k_is); (case dx_12 => k_is); (case dx_13 => k_is); (case dx_14 => k_is); (case dx_15 => k_is); (case dx_16 => k_is); (case dx_17 => k_is); (case dx_18 => k_is); (case dx_19 => k_is); (case dx_20 => k_is); (case dx_21 => k_is)
    case rr =>
      refine' Dis.rfun_of ?rr_a ?rr_t ?rr_l ?rr_c ?rr_k Dis.bd_Refused_init
      (case rr_a => k_is); (case rr_t => k_is); (case rr_l => k_is); (case rr_c => k_is); (case rr_k => k_is)
    case mS =>
      refine' Dis.mfun_of (q := "Node.read_so") (by decide +kernel) ?mS_a ?mS_i ?mS_l ?mS_c ?mS_k Dis.bd_Node_read_so
      (case mS_a => k_is); (case mS_i => k_is); (case mS_l => k_is); (case mS_c => k_is); (case mS_k => k_is)
    case mA =>
      refine' Dis.mfun_of (q := "Keeper.answer") (by decide +kernel) ?mA_a ?mA_i ?mA_l ?mA_c ?mA_k Dis.bd_Keeper_answer
      (case mA_a => k_is); (case mA_i => k_is); (case mA_l => k_is); (case mA_c => k_is); (case mA_k => k_is)
    case aa =>
      refine' Dis.afun_of KX G ?aa_a ?aa_l ?aa_c ?aa_k Dis.bd_answers
      (case aa_a => k_is); (case aa_l => k_is); (case aa_c => k_is); (case aa_k => k_is)
    case g_new_leaf =>
      refine' Dis.gfun_of KX G ?g_new_leaf_a ?g_new_leaf_l ?g_new_leaf_c ?g_new_leaf_k Dis.bd_new_leaf
      (case g_new_leaf_a => k_is); (case g_new_leaf_l => k_is); (case g_new_leaf_c => k_is); (case g_new_leaf_k => k_is)
    case g_put_at =>
      refine' Dis.gfun_of KX G ?g_put_at_a ?g_put_at_l ?g_put_at_c ?g_put_at_k Dis.bd_put_at
      (case g_put_at_a => k_is); (case g_put_at_l => k_is); (case g_put_at_c => k_is); (case g_put_at_k => k_is)
    case g_flipped =>
      refine' Dis.gfun_of KX G ?g_flipped_a ?g_flipped_l ?g_flipped_c ?g_flipped_k Dis.bd_flipped
      (case g_flipped_a => k_is); (case g_flipped_l => k_is); (case g_flipped_c => k_is); (case g_flipped_k => k_is)
    case g_misread_so =>
      refine' Dis.gfun_of KX G ?g_misread_so_a ?g_misread_so_l ?g_misread_so_c ?g_misread_so_k Dis.bd_misread_so
      (case g_misread_so_a => k_is); (case g_misread_so_l => k_is); (case g_misread_so_c => k_is); (case g_misread_so_k => k_is)
    case g_truths =>
      refine' Dis.gfun_of KX G ?g_truths_a ?g_truths_l ?g_truths_c ?g_truths_k Dis.bd_truths
      (case g_truths_a => k_is); (case g_truths_l => k_is); (case g_truths_c => k_is); (case g_truths_k => k_is)
    case g_leaves_of =>
      refine' Dis.gfun_of KX G ?g_leaves_of_a ?g_leaves_of_l ?g_leaves_of_c ?g_leaves_of_k Dis.bd_leaves_of
      (case g_leaves_of_a => k_is); (case g_leaves_of_l => k_is); (case g_leaves_of_c => k_is); (case g_leaves_of_k => k_is)
    case g_joined =>
      refine' Dis.gfun_of KX G ?g_joined_a ?g_joined_l ?g_joined_c ?g_joined_k Dis.bd_joined
      (case g_joined_a => k_is); (case g_joined_l => k_is); (case g_joined_c => k_is); (case g_joined_k => k_is)
    case g_depth_of =>
      refine' Dis.gfun_of KX G ?g_depth_of_a ?g_depth_of_l ?g_depth_of_c ?g_depth_of_k Dis.bd_depth_of
      (case g_depth_of_a => k_is); (case g_depth_of_l => k_is); (case g_depth_of_c => k_is); (case g_depth_of_k => k_is)
    case g_proof_of =>
      refine' Dis.gfun_of KX G ?g_proof_of_a ?g_proof_of_l ?g_proof_of_c ?g_proof_of_k Dis.bd_proof_of
      (case g_proof_of_a => k_is); (case g_proof_of_l => k_is); (case g_proof_of_c => k_is); (case g_proof_of_k => k_is)
    case g_shortest =>
      refine' Dis.gfun_of KX G ?g_shortest_a ?g_shortest_l ?g_shortest_c ?g_shortest_k Dis.bd_shortest
      (case g_shortest_a => k_is); (case g_shortest_l => k_is); (case g_shortest_c => k_is); (case g_shortest_k => k_is)
    case g_matters =>
      refine' Dis.gfun_of KX G ?g_matters_a ?g_matters_l ?g_matters_c ?g_matters_k Dis.bd_matters
      (case g_matters_a => k_is); (case g_matters_l => k_is); (case g_matters_c => k_is); (case g_matters_k => k_is)
    case g_held_all =>
      refine' Dis.gfun_of KX G ?g_held_all_a ?g_held_all_l ?g_held_all_c ?g_held_all_k Dis.bd_held_all
      (case g_held_all_a => k_is); (case g_held_all_l => k_is); (case g_held_all_c => k_is); (case g_held_all_k => k_is)
    case g_held_by =>
      refine' Dis.gfun_of KX G ?g_held_by_a ?g_held_by_l ?g_held_by_c ?g_held_by_k Dis.bd_held_by
      (case g_held_by_a => k_is); (case g_held_by_l => k_is); (case g_held_by_c => k_is); (case g_held_by_k => k_is)
    case g_are_picks =>
      refine' Dis.gfun_of KX G ?g_are_picks_a ?g_are_picks_l ?g_are_picks_c ?g_are_picks_k Dis.bd_are_picks
      (case g_are_picks_a => k_is); (case g_are_picks_l => k_is); (case g_are_picks_c => k_is); (case g_are_picks_k => k_is)
    case g_is_pick =>
      refine' Dis.gfun_of KX G ?g_is_pick_a ?g_is_pick_l ?g_is_pick_c ?g_is_pick_k Dis.bd_is_pick
      (case g_is_pick_a => k_is); (case g_is_pick_l => k_is); (case g_is_pick_c => k_is); (case g_is_pick_k => k_is)
    case g_right_wins =>
      refine' Dis.gfun_of KX G ?g_right_wins_a ?g_right_wins_l ?g_right_wins_c ?g_right_wins_k Dis.bd_right_wins
      (case g_right_wins_a => k_is); (case g_right_wins_l => k_is); (case g_right_wins_c => k_is); (case g_right_wins_k => k_is)
    case g_picked =>
      refine' Dis.gfun_of KX G ?g_picked_a ?g_picked_l ?g_picked_c ?g_picked_k Dis.bd_picked
      (case g_picked_a => k_is); (case g_picked_l => k_is); (case g_picked_c => k_is); (case g_picked_k => k_is)
    case g_way_from =>
      refine' Dis.gfun_of KX G ?g_way_from_a ?g_way_from_l ?g_way_from_c ?g_way_from_k Dis.bd_way_from
      (case g_way_from_a => k_is); (case g_way_from_l => k_is); (case g_way_from_c => k_is); (case g_way_from_k => k_is)
    case g_best_leaf =>
      refine' Dis.gfun_of KX G ?g_best_leaf_a ?g_best_leaf_l ?g_best_leaf_c ?g_best_leaf_k Dis.bd_best_leaf
      (case g_best_leaf_a => k_is); (case g_best_leaf_l => k_is); (case g_best_leaf_c => k_is); (case g_best_leaf_k => k_is)
    case g_need =>
      refine' Dis.gfun_of KX G ?g_need_a ?g_need_l ?g_need_c ?g_need_k Dis.bd_need
      (case g_need_a => k_is); (case g_need_l => k_is); (case g_need_c => k_is); (case g_need_k => k_is)
    case g_divisor =>
      refine' Dis.gfun_of KX G ?g_divisor_a ?g_divisor_l ?g_divisor_c ?g_divisor_k Dis.bd_divisor
      (case g_divisor_a => k_is); (case g_divisor_l => k_is); (case g_divisor_c => k_is); (case g_divisor_k => k_is)
    case g_fraction =>
      refine' Dis.gfun_of KX G ?g_fraction_a ?g_fraction_l ?g_fraction_c ?g_fraction_k Dis.bd_fraction
      (case g_fraction_a => k_is); (case g_fraction_l => k_is); (case g_fraction_c => k_is); (case g_fraction_k => k_is)
    case g_counted =>
      refine' Dis.gfun_of KX G ?g_counted_a ?g_counted_l ?g_counted_c ?g_counted_k Dis.bd_counted
      (case g_counted_a => k_is); (case g_counted_l => k_is); (case g_counted_c => k_is); (case g_counted_k => k_is)
    case g_leaf =>
      refine' Dis.gfun_of KX G ?g_leaf_a ?g_leaf_l ?g_leaf_c ?g_leaf_k Dis.bd_leaf
      (case g_leaf_a => k_is); (case g_leaf_l => k_is); (case g_leaf_c => k_is); (case g_leaf_k => k_is)
    case g_all_of =>
      refine' Dis.gfun_of KX G ?g_all_of_a ?g_all_of_l ?g_all_of_c ?g_all_of_k Dis.bd_all_of
      (case g_all_of_a => k_is); (case g_all_of_l => k_is); (case g_all_of_c => k_is); (case g_all_of_k => k_is)
    case g_some =>
      refine' Dis.gfun_of KX G ?g_some_a ?g_some_l ?g_some_c ?g_some_k Dis.bd_some
      (case g_some_a => k_is); (case g_some_l => k_is); (case g_some_c => k_is); (case g_some_k => k_is)
    case g_pop =>
      refine' Dis.gfun_of KX G ?g_pop_a ?g_pop_l ?g_pop_c ?g_pop_k Dis.bd_pop
      (case g_pop_a => k_is); (case g_pop_l => k_is); (case g_pop_c => k_is); (case g_pop_k => k_is)
    case g_node_is =>
      refine' Dis.gfun_of KX G ?g_node_is_a ?g_node_is_l ?g_node_is_c ?g_node_is_k Dis.bd_node_is
      (case g_node_is_a => k_is); (case g_node_is_l => k_is); (case g_node_is_c => k_is); (case g_node_is_k => k_is)
    case g_flip =>
      refine' Dis.gfun_of KX G ?g_flip_a ?g_flip_l ?g_flip_c ?g_flip_k Dis.bd_flip
      (case g_flip_a => k_is); (case g_flip_l => k_is); (case g_flip_c => k_is); (case g_flip_k => k_is)
    case g_wrong =>
      refine' Dis.gfun_of KX G ?g_wrong_a ?g_wrong_l ?g_wrong_c ?g_wrong_k Dis.bd_wrong
      (case g_wrong_a => k_is); (case g_wrong_l => k_is); (case g_wrong_c => k_is); (case g_wrong_k => k_is)
    case g_is_true =>
      refine' Dis.gfun_of KX G ?g_is_true_a ?g_is_true_l ?g_is_true_c ?g_is_true_k Dis.bd_is_true
      (case g_is_true_a => k_is); (case g_is_true_l => k_is); (case g_is_true_c => k_is); (case g_is_true_k => k_is)
    case g_held =>
      refine' Dis.gfun_of KX G ?g_held_a ?g_held_l ?g_held_c ?g_held_k Dis.bd_held
      (case g_held_a => k_is); (case g_held_l => k_is); (case g_held_c => k_is); (case g_held_k => k_is)
    case g_right =>
      refine' Dis.gfun_of KX G ?g_right_a ?g_right_l ?g_right_c ?g_right_k Dis.bd_right
      (case g_right_a => k_is); (case g_right_l => k_is); (case g_right_c => k_is); (case g_right_k => k_is)
    case g_pick =>
      refine' Dis.gfun_of KX G ?g_pick_a ?g_pick_l ?g_pick_c ?g_pick_k Dis.bd_pick
      (case g_pick_a => k_is); (case g_pick_l => k_is); (case g_pick_c => k_is); (case g_pick_k => k_is)
    case g_way =>
      refine' Dis.gfun_of KX G ?g_way_a ?g_way_l ?g_way_c ?g_way_k Dis.bd_way
      (case g_way_a => k_is); (case g_way_l => k_is); (case g_way_c => k_is); (case g_way_k => k_is)
    case g_by_say =>
      refine' Dis.gfun_of KX G ?g_by_say_a ?g_by_say_l ?g_by_say_c ?g_by_say_k Dis.bd_by_say
      (case g_by_say_a => k_is); (case g_by_say_l => k_is); (case g_by_say_c => k_is); (case g_by_say_k => k_is)
    case g_by_doubt =>
      refine' Dis.gfun_of KX G ?g_by_doubt_a ?g_by_doubt_l ?g_by_doubt_c ?g_by_doubt_k Dis.bd_by_doubt
      (case g_by_doubt_a => k_is); (case g_by_doubt_l => k_is); (case g_by_doubt_c => k_is); (case g_by_doubt_k => k_is)
    case g_proof =>
      refine' Dis.gfun_of KX G ?g_proof_a ?g_proof_l ?g_proof_c ?g_proof_k Dis.bd_proof
      (case g_proof_a => k_is); (case g_proof_l => k_is); (case g_proof_c => k_is); (case g_proof_k => k_is)
    case g_leaves =>
      refine' Dis.gfun_of KX G ?g_leaves_a ?g_leaves_l ?g_leaves_c ?g_leaves_k Dis.bd_leaves
      (case g_leaves_a => k_is); (case g_leaves_l => k_is); (case g_leaves_c => k_is); (case g_leaves_k => k_is)
    case g_matter =>
      refine' Dis.gfun_of KX G ?g_matter_a ?g_matter_l ?g_matter_c ?g_matter_k Dis.bd_matter
      (case g_matter_a => k_is); (case g_matter_l => k_is); (case g_matter_c => k_is); (case g_matter_k => k_is)
    case g_if_wrong =>
      refine' Dis.gfun_of KX G ?g_if_wrong_a ?g_if_wrong_l ?g_if_wrong_c ?g_if_wrong_k Dis.bd_if_wrong
      (case g_if_wrong_a => k_is); (case g_if_wrong_l => k_is); (case g_if_wrong_c => k_is); (case g_if_wrong_k => k_is)
    case g_if_flip =>
      refine' Dis.gfun_of KX G ?g_if_flip_a ?g_if_flip_l ?g_if_flip_c ?g_if_flip_k Dis.bd_if_flip
      (case g_if_flip_a => k_is); (case g_if_flip_l => k_is); (case g_if_flip_c => k_is); (case g_if_flip_k => k_is)
    case g_best =>
      refine' Dis.gfun_of KX G ?g_best_a ?g_best_l ?g_best_c ?g_best_k Dis.bd_best
      (case g_best_a => k_is); (case g_best_l => k_is); (case g_best_c => k_is); (case g_best_k => k_is)
    case g_depth =>
      refine' Dis.gfun_of KX G ?g_depth_a ?g_depth_l ?g_depth_c ?g_depth_k Dis.bd_depth
      (case g_depth_a => k_is); (case g_depth_l => k_is); (case g_depth_c => k_is); (case g_depth_k => k_is)
    case m_need_node =>
      refine' Dis.mfun_of (q := "Holder.need_node") (by decide +kernel) ?m_need_node_a ?m_need_node_i ?m_need_node_l ?m_need_node_c ?m_need_node_k Dis.bd_Holder_need_node
      (case m_need_node_a => k_is); (case m_need_node_i => k_is); (case m_need_node_l => k_is); (case m_need_node_c => k_is); (case m_need_node_k => k_is)
    case m_need_leaf =>
      refine' Dis.mfun_of (q := "Holder.need_leaf") (by decide +kernel) ?m_need_leaf_a ?m_need_leaf_i ?m_need_leaf_l ?m_need_leaf_c ?m_need_leaf_k Dis.bd_Holder_need_leaf
      (case m_need_leaf_a => k_is); (case m_need_leaf_i => k_is); (case m_need_leaf_l => k_is); (case m_need_leaf_c => k_is); (case m_need_leaf_k => k_is)
    case m_need_leaf_of =>
      refine' Dis.mfun_of (q := "Holder.need_leaf_of") (by decide +kernel) ?m_need_leaf_of_a ?m_need_leaf_of_i ?m_need_leaf_of_l ?m_need_leaf_of_c ?m_need_leaf_of_k Dis.bd_Holder_need_leaf_of
      (case m_need_leaf_of_a => k_is); (case m_need_leaf_of_i => k_is); (case m_need_leaf_of_l => k_is); (case m_need_leaf_of_c => k_is); (case m_need_leaf_of_k => k_is)
    case m_put =>
      refine' Dis.mfun_of (q := "Holder.put") (by decide +kernel) ?m_put_a ?m_put_i ?m_put_l ?m_put_c ?m_put_k Dis.bd_Holder_put
      (case m_put_a => k_is); (case m_put_i => k_is); (case m_put_l => k_is); (case m_put_c => k_is); (case m_put_k => k_is)
    case m_leaf =>
      refine' Dis.mfun_of (q := "Holder.leaf") (by decide +kernel) ?m_leaf_a ?m_leaf_i ?m_leaf_l ?m_leaf_c ?m_leaf_k Dis.bd_Holder_leaf
      (case m_leaf_a => k_is); (case m_leaf_i => k_is); (case m_leaf_l => k_is); (case m_leaf_c => k_is); (case m_leaf_k => k_is)
    case m_are_free =>
      refine' Dis.mfun_of (q := "Holder.are_free") (by decide +kernel) ?m_are_free_a ?m_are_free_i ?m_are_free_l ?m_are_free_c ?m_are_free_k Dis.bd_Holder_are_free
      (case m_are_free_a => k_is); (case m_are_free_i => k_is); (case m_are_free_l => k_is); (case m_are_free_c => k_is); (case m_are_free_k => k_is)
    case m_above =>
      refine' Dis.mfun_of (q := "Holder.above") (by decide +kernel) ?m_above_a ?m_above_i ?m_above_l ?m_above_c ?m_above_k Dis.bd_Holder_above
      (case m_above_a => k_is); (case m_above_i => k_is); (case m_above_l => k_is); (case m_above_c => k_is); (case m_above_k => k_is)
    case m_pop =>
      refine' Dis.mfun_of (q := "Holder.pop") (by decide +kernel) ?m_pop_a ?m_pop_i ?m_pop_l ?m_pop_c ?m_pop_k Dis.bd_Holder_pop
      (case m_pop_a => k_is); (case m_pop_i => k_is); (case m_pop_l => k_is); (case m_pop_c => k_is); (case m_pop_k => k_is)
    case m_node_is =>
      refine' Dis.mfun_of (q := "Holder.node_is") (by decide +kernel) ?m_node_is_a ?m_node_is_i ?m_node_is_l ?m_node_is_c ?m_node_is_k Dis.bd_Holder_node_is
      (case m_node_is_a => k_is); (case m_node_is_i => k_is); (case m_node_is_l => k_is); (case m_node_is_c => k_is); (case m_node_is_k => k_is)
    case m_flip =>
      refine' Dis.mfun_of (q := "Holder.flip") (by decide +kernel) ?m_flip_a ?m_flip_i ?m_flip_l ?m_flip_c ?m_flip_k Dis.bd_Holder_flip
      (case m_flip_a => k_is); (case m_flip_i => k_is); (case m_flip_l => k_is); (case m_flip_c => k_is); (case m_flip_k => k_is)
    case m_wrong =>
      refine' Dis.mfun_of (q := "Holder.wrong") (by decide +kernel) ?m_wrong_a ?m_wrong_i ?m_wrong_l ?m_wrong_c ?m_wrong_k Dis.bd_Holder_wrong
      (case m_wrong_a => k_is); (case m_wrong_i => k_is); (case m_wrong_l => k_is); (case m_wrong_c => k_is); (case m_wrong_k => k_is)
    case m_is_true =>
      refine' Dis.mfun_of (q := "Holder.is_true") (by decide +kernel) ?m_is_true_a ?m_is_true_i ?m_is_true_l ?m_is_true_c ?m_is_true_k Dis.bd_Holder_is_true
      (case m_is_true_a => k_is); (case m_is_true_i => k_is); (case m_is_true_l => k_is); (case m_is_true_c => k_is); (case m_is_true_k => k_is)
    case m_held =>
      refine' Dis.mfun_of (q := "Holder.held") (by decide +kernel) ?m_held_a ?m_held_i ?m_held_l ?m_held_c ?m_held_k Dis.bd_Holder_held
      (case m_held_a => k_is); (case m_held_i => k_is); (case m_held_l => k_is); (case m_held_c => k_is); (case m_held_k => k_is)
    case m_right =>
      refine' Dis.mfun_of (q := "Holder.right") (by decide +kernel) ?m_right_a ?m_right_i ?m_right_l ?m_right_c ?m_right_k Dis.bd_Holder_right
      (case m_right_a => k_is); (case m_right_i => k_is); (case m_right_l => k_is); (case m_right_c => k_is); (case m_right_k => k_is)
    case m_pick =>
      refine' Dis.mfun_of (q := "Holder.pick") (by decide +kernel) ?m_pick_a ?m_pick_i ?m_pick_l ?m_pick_c ?m_pick_k Dis.bd_Holder_pick
      (case m_pick_a => k_is); (case m_pick_i => k_is); (case m_pick_l => k_is); (case m_pick_c => k_is); (case m_pick_k => k_is)
    case m_way =>
      refine' Dis.mfun_of (q := "Holder.way") (by decide +kernel) ?m_way_a ?m_way_i ?m_way_l ?m_way_c ?m_way_k Dis.bd_Holder_way
      (case m_way_a => k_is); (case m_way_i => k_is); (case m_way_l => k_is); (case m_way_c => k_is); (case m_way_k => k_is)
    case m_by_picks =>
      refine' Dis.mfun_of (q := "Holder.by_picks") (by decide +kernel) ?m_by_picks_a ?m_by_picks_i ?m_by_picks_l ?m_by_picks_c ?m_by_picks_k Dis.bd_Holder_by_picks
      (case m_by_picks_a => k_is); (case m_by_picks_i => k_is); (case m_by_picks_l => k_is); (case m_by_picks_c => k_is); (case m_by_picks_k => k_is)
    case m_by_say =>
      refine' Dis.mfun_of (q := "Holder.by_say") (by decide +kernel) ?m_by_say_a ?m_by_say_i ?m_by_say_l ?m_by_say_c ?m_by_say_k Dis.bd_Holder_by_say
      (case m_by_say_a => k_is); (case m_by_say_i => k_is); (case m_by_say_l => k_is); (case m_by_say_c => k_is); (case m_by_say_k => k_is)
    case m_by_doubt =>
      refine' Dis.mfun_of (q := "Holder.by_doubt") (by decide +kernel) ?m_by_doubt_a ?m_by_doubt_i ?m_by_doubt_l ?m_by_doubt_c ?m_by_doubt_k Dis.bd_Holder_by_doubt
      (case m_by_doubt_a => k_is); (case m_by_doubt_i => k_is); (case m_by_doubt_l => k_is); (case m_by_doubt_c => k_is); (case m_by_doubt_k => k_is)
    case m_proof =>
      refine' Dis.mfun_of (q := "Holder.proof") (by decide +kernel) ?m_proof_a ?m_proof_i ?m_proof_l ?m_proof_c ?m_proof_k Dis.bd_Holder_proof
      (case m_proof_a => k_is); (case m_proof_i => k_is); (case m_proof_l => k_is); (case m_proof_c => k_is); (case m_proof_k => k_is)
    case m_leaves =>
      refine' Dis.mfun_of (q := "Holder.leaves") (by decide +kernel) ?m_leaves_a ?m_leaves_i ?m_leaves_l ?m_leaves_c ?m_leaves_k Dis.bd_Holder_leaves
      (case m_leaves_a => k_is); (case m_leaves_i => k_is); (case m_leaves_l => k_is); (case m_leaves_c => k_is); (case m_leaves_k => k_is)
    case m_matter =>
      refine' Dis.mfun_of (q := "Holder.matter") (by decide +kernel) ?m_matter_a ?m_matter_i ?m_matter_l ?m_matter_c ?m_matter_k Dis.bd_Holder_matter
      (case m_matter_a => k_is); (case m_matter_i => k_is); (case m_matter_l => k_is); (case m_matter_c => k_is); (case m_matter_k => k_is)
    case m_if_wrong =>
      refine' Dis.mfun_of (q := "Holder.if_wrong") (by decide +kernel) ?m_if_wrong_a ?m_if_wrong_i ?m_if_wrong_l ?m_if_wrong_c ?m_if_wrong_k Dis.bd_Holder_if_wrong
      (case m_if_wrong_a => k_is); (case m_if_wrong_i => k_is); (case m_if_wrong_l => k_is); (case m_if_wrong_c => k_is); (case m_if_wrong_k => k_is)
    case m_if_flip =>
      refine' Dis.mfun_of (q := "Holder.if_flip") (by decide +kernel) ?m_if_flip_a ?m_if_flip_i ?m_if_flip_l ?m_if_flip_c ?m_if_flip_k Dis.bd_Holder_if_flip
      (case m_if_flip_a => k_is); (case m_if_flip_i => k_is); (case m_if_flip_l => k_is); (case m_if_flip_c => k_is); (case m_if_flip_k => k_is)
    case m_best =>
      refine' Dis.mfun_of (q := "Holder.best") (by decide +kernel) ?m_best_a ?m_best_i ?m_best_l ?m_best_c ?m_best_k Dis.bd_Holder_best
      (case m_best_a => k_is); (case m_best_i => k_is); (case m_best_l => k_is); (case m_best_c => k_is); (case m_best_k => k_is)
    case m_depth =>
      refine' Dis.mfun_of (q := "Holder.depth") (by decide +kernel) ?m_depth_a ?m_depth_i ?m_depth_l ?m_depth_c ?m_depth_k Dis.bd_Holder_depth
      (case m_depth_a => k_is); (case m_depth_i => k_is); (case m_depth_l => k_is); (case m_depth_c => k_is); (case m_depth_k => k_is)
  case S =>
    intro K H xs a hO hwi hask hx
    cases hx with
    | cons h1 h2 =>
      cases h2
      cases h1 with
      | lst hs ha =>
        have e := L2.ints_dw a.1 _ ha
        subst e
        exact ⟨_, a.1, rfl, hs, hask, fun H' p hp => .lst (L2.SqL.of hp) (L2.dw_ints _)⟩
#print axioms PySem.Challenge.cw_disputed_s01_answers_holds
