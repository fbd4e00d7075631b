import PyProof.Rows.All
import Wide.All
import OpenK.AllK
import Wide.FinOn
import Open.SpecLaws
import KE.OsGo
import HandS.ForSpec
import KE.SortKeyHeap
import HandS.Comp
import HandS.SortKw
import HandS.Lambda
import PyProof.MaxThree
import HandS.Style
import HandS.Conv
import HandS.NoneIn
import HandS.Deep
import HandS.SetFor
import HandS.CallLocal
import PyUt03
import PySem.Challenge.RW_translations_s01_answers
set_option Elab.async false
set_option linter.all false
set_option maxRecDepth 100000
set_option maxHeartbeats 4000000
set_option autoImplicit false
namespace TM
open Ut03 (Sent)
/-- how far so many first words of one are from so many of the other -/
def ed (a b : Sent) (i j : Nat) : Nat := match i, j with
  | 0, j => j
  | i + 1, 0 => i + 1
  | i + 1, j + 1 => min (min (ed a b i (j + 1) + 1) (ed a b (i + 1) j + 1)) (ed a b i j + if a.getD i 0 = b.getD j 0 then 0 else 1)
termination_by i + j

theorem ed_zero (a b : Sent) (j : Nat) : ed a b 0 j = j := by rw [ed]
theorem ed_nil (a b : Sent) (i : Nat) : ed a b i 0 = i := by
  cases i with
  | zero => rw [ed]
  | succ i => rw [ed]
theorem ed_succ (a b : Sent) (i j : Nat) : ed a b (i + 1) (j + 1) = min (min (ed a b i (j + 1) + 1) (ed a b (i + 1) j + 1)) (ed a b i j + if a.getD i 0 = b.getD j 0 then 0 else 1) := by
  rw [ed]
theorem ed_symm (a b : Sent) : ∀ (n i j : Nat), i + j ≤ n → ed a b i j = ed b a j i
  | 0, i, j, h => by
    obtain rfl : i = 0 := by omega
    obtain rfl : j = 0 := by omega
    rw [ed_zero, ed_zero]
  | n + 1, 0, j, _ => by rw [ed_zero, ed_nil]
  | n + 1, i + 1, 0, _ => by rw [ed_zero, ed_nil]
  | n + 1, i + 1, j + 1, h => by
    rw [ed_succ, ed_succ, ed_symm a b n i (j + 1) (by omega), ed_symm a b n (i + 1) j (by omega), ed_symm a b n i j (by omega)]
    have e : (if a.getD i 0 = b.getD j 0 then 0 else 1) = (if b.getD j 0 = a.getD i 0 then 0 else 1) := by
      by_cases h : a.getD i 0 = b.getD j 0
      · rw [if_pos h, if_pos h.symm]
      · rw [if_neg h, if_neg (fun z => h z.symm)]
    rw [e]
    omega
theorem ed_le (a b : Sent) : ∀ (n i j : Nat), i + j ≤ n → ed a b i j ≤ max i j
  | 0, i, j, h => by
    obtain rfl : i = 0 := by omega
    rw [ed_zero]
    omega
  | n + 1, 0, j, _ => by rw [ed_zero]; omega
  | n + 1, i + 1, 0, _ => by rw [ed_nil]; omega
  | n + 1, i + 1, j + 1, h => by
    rw [ed_succ]
    have h1 := ed_le a b n i j (by omega)
    split <;> omega

/-! ### the table -/
def nr (a : Nat) : List (Nat × Nat × Nat) → Nat → List Nat
  | [], _ => []
  | y :: l, x =>
    let v := min (min (y.2.2 + 1) (x + 1)) (y.2.1 + if a = y.1 then 0 else 1)
    v :: nr a l v
theorem nr_fold (a : Nat) : ∀ (l : List (Nat × Nat × Nat)) (acc : List Nat) (x : Nat), (l.foldl (fun (x : List Nat × Nat) y =>
    let v := min (min (y.2.2 + 1) (x.2 + 1)) (y.2.1 + if a = y.1 then 0 else 1)
    (v :: x.1, v)) (acc, x)).1 = (nr a l x).reverse ++ acc
  | [], acc, x => rfl
  | y :: l, acc, x => by
    rw [List.foldl_cons, nr_fold a l]
    show _ = (_ :: nr a l _).reverse ++ acc
    rw [List.reverse_cons, List.append_assoc]
    rfl
theorem nextRow_nr (a : Nat) (b : Sent) (row : List Nat) (first : Nat) : Ut03.nextRow a b row first = first :: nr a (b.zip (row.zip (row.drop 1))) first := by
  unfold Ut03.nextRow
  rw [nr_fold]
  simp
/-- one row of the table -/
def row (a b : Sent) (i : Nat) : List Nat := (List.range (b.length + 1)).map (ed a b i)
theorem nr_row (a b : Sent) (i : Nat) : ∀ (os : List Nat) (k : Nat), b.drop k = os →
    nr (a.getD i 0) (os.zip (((List.range' k (os.length + 1)).map (ed a b i)).zip (((List.range' k (os.length + 1)).map (ed a b i)).drop 1))) (ed a b (i + 1) k) = (List.range' (k + 1) os.length).map (ed a b (i + 1))
  | [], k, h => by simp [nr]
  | o :: os, k, h => by
    have hd : b.drop (k + 1) = os := by
      have : (b.drop k).drop 1 = (o :: os).drop 1 := by rw [h]
      rw [List.drop_drop] at this
      simpa using this
    have ho : b.getD k 0 = o := by
      have : (b.drop k)[0]? = some o := by rw [h]; rfl
      rw [List.getElem?_drop] at this
      rw [List.getD_eq_getElem?_getD]
      simp at this
      rw [this]; rfl
    have ih := nr_row a b i os (k + 1) hd
    have e1 : (List.range' k ((o :: os).length + 1)).map (ed a b i) = ed a b i k :: (List.range' (k + 1) (os.length + 1)).map (ed a b i) := by
      rw [List.length_cons, List.range'_succ, List.map_cons]
    have e2 : (List.range' (k + 1) (os.length + 1)).map (ed a b i) = ed a b i (k + 1) :: (List.range' (k + 2) os.length).map (ed a b i) := by
      rw [List.range'_succ, List.map_cons]
    rw [e1]
    have e3 : (List.range' (k + 1) (o :: os).length).map (ed a b (i + 1)) = ed a b (i + 1) (k + 1) :: (List.range' (k + 2) os.length).map (ed a b (i + 1)) := by
      rw [List.length_cons, List.range'_succ, List.map_cons]
    rw [e3, List.drop_succ_cons, List.drop_zero]
    have e4 : (o :: os).zip ((ed a b i k :: (List.range' (k + 1) (os.length + 1)).map (ed a b i)).zip ((List.range' (k + 1) (os.length + 1)).map (ed a b i)))
        = (o, ed a b i k, ed a b i (k + 1)) :: os.zip (((List.range' (k + 1) (os.length + 1)).map (ed a b i)).zip (((List.range' (k + 1) (os.length + 1)).map (ed a b i)).drop 1)) := by
      conv => lhs; rw [e2]
      rw [e2, List.drop_succ_cons, List.drop_zero]
      rfl
    rw [e4]
    show (_ :: nr _ _ _) = _
    have ev : min (min (ed a b i (k + 1) + 1) (ed a b (i + 1) k + 1)) (ed a b i k + if a.getD i 0 = o then 0 else 1) = ed a b (i + 1) (k + 1) := by
      rw [ed_succ, ho]
    dsimp only
    rw [ev, ih]
theorem nextRow_row (a b : Sent) (i : Nat) : Ut03.nextRow (a.getD i 0) b (row a b i) (i + 1) = row a b (i + 1) := by
  rw [nextRow_nr]
  have h := nr_row a b i b 0 rfl
  rw [ed_nil] at h
  unfold row
  rw [List.range_eq_range', h, List.range'_succ, List.map_cons, ed_nil]
theorem row_zero (a b : Sent) : row a b 0 = List.range (b.length + 1) := by
  unfold row
  rw [List.map_congr_left (g := id) fun j _ => ed_zero a b j, List.map_id]
theorem rowsFrom_is (a b : Sent) : ∀ (w : List Nat) (k : Nat), a.drop k = w → Ut03.rowsFrom b w (row a b k) k = (List.range' k (w.length + 1)).map (row a b)
  | [], k, _ => rfl
  | x :: w, k, h => by
    have hd : a.drop (k + 1) = w := by
      have : (a.drop k).drop 1 = (x :: w).drop 1 := by rw [h]
      rw [List.drop_drop] at this
      simpa using this
    have hx : a.getD k 0 = x := by
      have : (a.drop k)[0]? = some x := by rw [h]; rfl
      rw [List.getElem?_drop] at this
      rw [List.getD_eq_getElem?_getD]
      simp at this
      rw [this]; rfl
    show row a b k :: Ut03.rowsFrom b w (Ut03.nextRow x b (row a b k) (k + 1)) (k + 1) = _
    rw [← hx, nextRow_row, rowsFrom_is a b w (k + 1) hd, List.length_cons, List.range'_succ (n := w.length + 1), List.map_cons]
theorem table_is (a b : Sent) : Ut03.table a b = (List.range (a.length + 1)).map (row a b) := by
  unfold Ut03.table
  rw [← row_zero a b, rowsFrom_is a b a 0 rfl, List.range_eq_range']
theorem table_at (a b : Sent) (i j : Nat) (hi : i ≤ a.length) (hj : j ≤ b.length) : ((Ut03.table a b).getD i []).getD j 0 = ed a b i j := by
  rw [table_is]
  simp only [List.getD_eq_getElem?_getD, List.getElem?_map, List.getElem?_range (show i < a.length + 1 by omega), Option.map_some, Option.getD_some]
  unfold row
  simp only [List.getElem?_map, List.getElem?_range (show j < b.length + 1 by omega), Option.map_some, Option.getD_some]
theorem distance_is (a b : Sent) : Ut03.distance a b = ed a b a.length b.length := by
  unfold Ut03.distance
  rw [table_is, List.range_succ, List.map_append]
  simp only [List.map_cons, List.map_nil, List.getLastD_concat]
  unfold row
  rw [List.range_succ, List.map_append]
  simp only [List.map_cons, List.map_nil, List.getLastD_concat]
theorem distance_symm (a b : Sent) : Ut03.distance a b = Ut03.distance b a := by
  rw [distance_is, distance_is]
  exact ed_symm a b _ _ _ (Nat.le_refl _)
theorem distance_le (a b : Sent) : Ut03.distance a b ≤ max a.length b.length := by
  rw [distance_is]
  exact ed_le a b _ _ _ (Nat.le_refl _)
theorem near_symm (a b : Sent) : Ut03.near a b = Ut03.near b a := by
  unfold Ut03.near
  rw [distance_symm a b, Nat.max_comm]

/-! ### the way -/
/-- the last step of a way -/
def lstep (a b : Sent) (i j : Nat) : Nat :=
  if 0 < i ∧ 0 < j ∧ a.getD (i - 1) 0 = b.getD (j - 1) 0 ∧ ed a b i j = ed a b (i - 1) (j - 1) then 0 else
  if 0 < i ∧ 0 < j ∧ ed a b i j = ed a b (i - 1) (j - 1) + 1 then 1 else
  if 0 < i ∧ ed a b i j = ed a b (i - 1) j + 1 then 2 else 3
/-- what is left behind the step -/
def backI (s i : Nat) : Nat := if s = 3 then i else i - 1
def backJ (s j : Nat) : Nat := if s = 2 then j else j - 1
def steps (a b : Sent) : Nat → Nat → Nat → List Nat
  | 0, _, _ => []
  | f + 1, i, j => if i = 0 ∧ j = 0 then [] else steps a b f (backI (lstep a b i j) i) (backJ (lstep a b i j) j) ++ [lstep a b i j]
theorem wayFrom_is (a b : Sent) : ∀ (f i j : Nat), i ≤ a.length → j ≤ b.length → Ut03.wayFrom (Ut03.table a b) a b f i j = steps a b f i j
  | 0, _, _, _, _ => rfl
  | f + 1, i, j, hi, hj => by
    unfold Ut03.wayFrom steps
    simp only []
    simp only [table_at a b i j hi hj, table_at a b (i - 1) (j - 1) (by omega) (by omega), table_at a b (i - 1) j (by omega) hj]
    by_cases h0 : i = 0 ∧ j = 0
    · rw [if_pos h0, if_pos h0]
    · rw [if_neg h0, if_neg h0]
      unfold lstep
      by_cases h1 : 0 < i ∧ 0 < j ∧ a.getD (i - 1) 0 = b.getD (j - 1) 0 ∧ ed a b i j = ed a b (i - 1) (j - 1)
      · rw [if_pos h1, if_pos h1, wayFrom_is a b f (i - 1) (j - 1) (by omega) (by omega)]
        rfl
      · rw [if_neg h1, if_neg h1]
        by_cases h2 : 0 < i ∧ 0 < j ∧ ed a b i j = ed a b (i - 1) (j - 1) + 1
        · rw [if_pos h2, if_pos h2, wayFrom_is a b f (i - 1) (j - 1) (by omega) (by omega)]
          rfl
        · rw [if_neg h2, if_neg h2]
          by_cases h3 : 0 < i ∧ ed a b i j = ed a b (i - 1) j + 1
          · rw [if_pos h3, if_pos h3, wayFrom_is a b f (i - 1) j (by omega) hj]
            rfl
          · rw [if_neg h3, if_neg h3, wayFrom_is a b f i (j - 1) hi (by omega)]
            rfl
theorem way_is (a b : Sent) : Ut03.way a b = steps a b (a.length + b.length + 1) a.length b.length := wayFrom_is a b _ _ _ (Nat.le_refl _) (Nat.le_refl _)
theorem ed_left (a b : Sent) (i : Nat) : ed a b (i + 1) 0 = ed a b i 0 + 1 := by rw [ed_nil, ed_nil]
/-- where the last step is «put in», there is a word to be put in, and it costs one -/
theorem lstep_three {a b : Sent} {i j : Nat} (h : ¬ (i = 0 ∧ j = 0)) (h3 : lstep a b i j = 3) : 0 < j ∧ ed a b i j = ed a b i (j - 1) + 1 := by
  unfold lstep at h3
  split at h3
  · cases h3
  · rename_i h1
    split at h3
    · cases h3
    · rename_i h2
      split at h3
      · cases h3
      · rename_i h4
        cases i with
        | zero =>
          refine ⟨by omega, ?_⟩
          rw [ed_zero, ed_zero]
          omega
        | succ i =>
          cases j with
          | zero => exact absurd ⟨by omega, ed_left a b i⟩ h4
          | succ j =>
            refine ⟨by omega, ?_⟩
            simp only [Nat.add_sub_cancel] at h1 h2 h4 ⊢
            have e := ed_succ a b i j
            by_cases hw : a.getD i 0 = b.getD j 0
            · rw [if_pos hw] at e
              have n1 : ed a b (i + 1) (j + 1) ≠ ed a b i j := fun z => h1 ⟨by omega, by omega, hw, z⟩
              have n3 : ed a b (i + 1) (j + 1) ≠ ed a b i (j + 1) + 1 := fun z => h4 ⟨by omega, z⟩
              omega
            · rw [if_neg hw] at e
              have n2 : ed a b (i + 1) (j + 1) ≠ ed a b i j + 1 := fun z => h2 ⟨by omega, by omega, z⟩
              have n3 : ed a b (i + 1) (j + 1) ≠ ed a b i (j + 1) + 1 := fun z => h4 ⟨by omega, z⟩
              omega
theorem lstep_le (a b : Sent) (i j : Nat) : lstep a b i j ≤ 3 := by
  unfold lstep
  split
  · omega
  · split
    · omega
    · split <;> omega
theorem price_append (l : List Nat) (s : Nat) : Ut03.price (l ++ [s]) = Ut03.price l + if s = 0 then 0 else 1 := by
  unfold Ut03.price
  rw [List.filter_append, List.length_append]
  by_cases h : s = 0
  · subst h; simp
  · rw [if_neg h]
    have : ([s].filter fun k => k != 0) = [s] := by simp [h]
    rw [this]; rfl
theorem price_steps (a b : Sent) : ∀ (f i j : Nat), i + j < f → Ut03.price (steps a b f i j) = ed a b i j
  | 0, _, _, h => by omega
  | f + 1, i, j, h => by
    unfold steps
    by_cases h0 : i = 0 ∧ j = 0
    · rw [if_pos h0, h0.1, h0.2, ed_zero]
      rfl
    · rw [if_neg h0, price_append]
      by_cases h3 : lstep a b i j = 3
      · obtain ⟨hj, e⟩ := lstep_three h0 h3
        rw [h3]
        show Ut03.price (steps a b f (if (3 : Nat) = 3 then i else i - 1) (if (3 : Nat) = 2 then j else j - 1)) + _ = _
        rw [if_pos rfl, if_neg (by decide), if_neg (by decide), price_steps a b f i (j - 1) (by omega), e]
      · have hs := h3
        unfold lstep at hs ⊢
        split
        · rename_i h1
          show Ut03.price (steps a b f (i - 1) (j - 1)) + 0 = _
          rw [price_steps a b f (i - 1) (j - 1) (by omega)]
          omega
        · rename_i h1
          rw [if_neg h1] at hs
          split
          · rename_i h2
            show Ut03.price (steps a b f (i - 1) (j - 1)) + 1 = _
            rw [price_steps a b f (i - 1) (j - 1) (by omega)]
            omega
          · rename_i h2
            rw [if_neg h2] at hs
            split
            · rename_i h4
              show Ut03.price (steps a b f (i - 1) j) + 1 = _
              rw [price_steps a b f (i - 1) j (by omega)]
              omega
            · rename_i h4
              rw [if_neg h4] at hs
              exact absurd rfl hs
theorem price_way (a b : Sent) : Ut03.price (Ut03.way a b) = Ut03.distance a b := by
  rw [way_is, distance_is]
  exact price_steps a b _ _ _ (by omega)
/-- at most so many steps as there are words -/
theorem steps_len (a b : Sent) : ∀ (f i j : Nat), (steps a b f i j).length ≤ f
  | 0, _, _ => Nat.le_refl _
  | f + 1, i, j => by
    unfold steps
    split
    · exact Nat.zero_le _
    · rw [List.length_append]
      have := steps_len a b f (backI (lstep a b i j) i) (backJ (lstep a b i j) j)
      show _ + 1 ≤ f + 1
      omega
end TM

namespace TM
open Ut03 (Sent Entry Ask House)
/-! ### the score -/
def likely (e : Entry) (q : Ask) : Nat := if e.source = q.source then 100 + (if e.ahead = q.ahead then 1 else 0) + (if e.behind = q.behind then 1 else 0) else min (Ut03.near e.source q.source) 99
def points (e : Entry) (q : Ask) : Nat := if e.client = q.client then likely e q else likely e q - 3
theorem points_is (e : Entry) (q : Ask) : points e q = Ut03.score q e := by
  unfold points Ut03.score likely
  simp only []
  rw [near_symm q.source e.source]
  by_cases hs : e.source = q.source
  · rw [if_pos hs, if_pos hs.symm]
    by_cases ha : e.ahead = q.ahead <;> by_cases hb : e.behind = q.behind <;> by_cases hc : e.client = q.client <;> simp [ha, hb, hc]
  · rw [if_neg hs, if_neg (show ¬ q.source = e.source from fun z => hs z.symm)]
    by_cases hc : e.client = q.client <;> simp [hc]

/-! ### what is found -/
abbrev Row := Nat × Entry
/-- x stands ahead of y, or they are equal in rank -/
def leq (x y : Row) : Bool := !decide (x.1 < y.1 ∨ (x.1 = y.1 ∧ x.2.number < y.2.number))
theorem leq_iff {x y : Row} : leq x y = true ↔ y.1 < x.1 ∨ (x.1 = y.1 ∧ y.2.number ≤ x.2.number) := by
  unfold leq
  simp only [Bool.not_eq_true', decide_eq_false_iff_not]
  omega
theorem leq_trans (x y z : Row) (h1 : leq x y = true) (h2 : leq y z = true) : leq x z = true := by
  rw [leq_iff] at *
  omega
theorem leq_total (x y : Row) : (leq x y || leq y x) = true := by
  rw [Bool.or_eq_true, leq_iff, leq_iff]
  omega
/-- two lists in order of the same items are one, where equal rank means equal -/
theorem order_one : ∀ (m n : List Row), m.Perm n → m.Pairwise (fun x y => leq x y = true) → n.Pairwise (fun x y => leq x y = true) → (∀ x ∈ m, ∀ y ∈ m, leq x y = true → leq y x = true → x = y) → m = n
  | [], n, hp, _, _, _ => (List.nil_perm.mp hp).symm
  | x :: m, [], hp, _, _, _ => absurd (List.perm_nil.mp hp) (by simp)
  | x :: m, y :: n, hp, hm, hn, ha => by
    have hx : x ∈ y :: n := hp.mem_iff.mp (List.mem_cons_self ..)
    have hy : y ∈ x :: m := hp.mem_iff.mpr (List.mem_cons_self ..)
    have rf : ∀ z : Row, leq z z = true := fun z => by rw [leq_iff]; omega
    have h1 : leq x y = true := by
      rcases List.mem_cons.mp hy with e | e
      · rw [e]; exact rf _
      · exact (List.pairwise_cons.mp hm).1 y e
    have h2 : leq y x = true := by
      rcases List.mem_cons.mp hx with e | e
      · rw [e]; exact rf _
      · exact (List.pairwise_cons.mp hn).1 x e
    have e : x = y := ha x (List.mem_cons_self ..) y hy h1 h2
    subst e
    rw [order_one m n ((List.perm_cons x).mp hp) (List.pairwise_cons.mp hm).2 (List.pairwise_cons.mp hn).2 fun a h b h' => ha a (List.mem_cons_of_mem _ h) b (List.mem_cons_of_mem _ h')]
theorem insertBy_perm (x : Row) : ∀ l : List Row, (Ut03.insertBy x l).Perm (x :: l)
  | [] => .refl _
  | y :: l => by
    unfold Ut03.insertBy
    split
    · exact .refl _
    · exact ((insertBy_perm x l).cons y).trans (.swap x y l)
theorem inserted_perm : ∀ l : List Row, (l.foldr Ut03.insertBy []).Perm l
  | [] => .refl _
  | x :: l => (insertBy_perm x _).trans ((inserted_perm l).cons x)
theorem better_leq {x y : Row} (h : Ut03.better x y = true) : leq x y = true := by
  unfold Ut03.better at h
  rw [leq_iff]
  simp at h
  omega
theorem not_better {x y : Row} (h : ¬ Ut03.better x y = true) : leq y x = true := by
  unfold Ut03.better at h
  rw [leq_iff]
  simp at h
  omega
theorem insertBy_sorted (x : Row) : ∀ l : List Row, l.Pairwise (fun x y => leq x y = true) → (Ut03.insertBy x l).Pairwise (fun x y => leq x y = true)
  | [], _ => List.pairwise_singleton _ _
  | y :: l, h => by
    unfold Ut03.insertBy
    obtain ⟨h1, h2⟩ := List.pairwise_cons.mp h
    split
    · rename_i hb
      refine List.pairwise_cons.mpr ⟨fun z hz => ?_, h⟩
      rcases List.mem_cons.mp hz with e | e
      · rw [e]; exact better_leq hb
      · exact leq_trans x y z (better_leq hb) (h1 z e)
    · rename_i hb
      refine List.pairwise_cons.mpr ⟨fun z hz => ?_, insertBy_sorted x l h2⟩
      rcases List.mem_cons.mp ((insertBy_perm x l).mem_iff.mp hz) with e | e
      · rw [e]; exact not_better hb
      · exact h1 z e
theorem inserted_sorted : ∀ l : List Row, (l.foldr Ut03.insertBy []).Pairwise (fun x y => leq x y = true)
  | [] => List.Pairwise.nil
  | x :: l => insertBy_sorted x _ (inserted_sorted l)
/-- numbers rise -/
def Rising (l : List Entry) : Prop := l.Pairwise fun x y => x.number < y.number
theorem Rising.one {l : List Entry} (h : Rising l) : ∀ x ∈ l, ∀ y ∈ l, x.number = y.number → x = y := by
  induction l with
  | nil => intro x hx; cases hx
  | cons a l ih =>
    obtain ⟨h1, h2⟩ := List.pairwise_cons.mp h
    intro x hx y hy e
    rcases List.mem_cons.mp hx with ex | hx' <;> rcases List.mem_cons.mp hy with ey | hy'
    · rw [ex, ey]
    · have := h1 y hy'; rw [ex] at e; omega
    · have := h1 x hx'; rw [ey] at e; omega
    · exact ih h2 x hx' y hy' e
/-- all entries with their scores, in order -/
def ranked (l : List Entry) (q : Ask) : List Row := (l.map fun e => (points e q, e)).mergeSort leq
def eachOnce (rows : List Row) : List Row := rows.foldl (fun m x => if (m.any fun y => y.2.target == x.2.target) = true then m else m ++ [x]) []
def foundM (l : List Entry) (q : Ask) (least : Nat) : List Row := eachOnce ((ranked l q).filter fun x => decide (least ≤ x.1))
theorem found_is {l : List Entry} (h : Rising l) (q : Ask) (least : Nat) : foundM l q least = Ut03.found l q least := by
  unfold foundM Ut03.found eachOnce ranked
  have e0 : (l.map fun e => (points e q, e)) = (l.map fun e => (Ut03.score q e, e)) := List.map_congr_left fun e _ => by rw [points_is]
  rw [e0]
  generalize hb : (l.map fun e => (Ut03.score q e, e)) = bs
  have key : (bs.mergeSort leq).filter (fun x => decide (least ≤ x.1)) = (bs.filter fun x => decide (least ≤ x.1)).foldr Ut03.insertBy [] := by
    refine order_one _ _ (((List.mergeSort_perm bs leq).filter _).trans (inserted_perm _).symm) ?_ (inserted_sorted _) fun x hx y hy h1 h2 => ?_
    · exact (List.pairwise_mergeSort (le := leq) leq_trans leq_total bs).filter _
    · have mx : x ∈ bs := (List.mergeSort_perm bs leq).mem_iff.mp (List.mem_filter.mp hx).1
      have my : y ∈ bs := (List.mergeSort_perm bs leq).mem_iff.mp (List.mem_filter.mp hy).1
      rw [← hb] at mx my
      obtain ⟨ex, hex, rfl⟩ := List.mem_map.mp mx
      obtain ⟨ey, hey, rfl⟩ := List.mem_map.mp my
      rw [leq_iff] at h1 h2
      have e : ex = ey := h.one ex hex ey hey (by simp only [] at h1 h2; omega)
      rw [e]
  rw [key]
theorem ranked_len (l : List Entry) (q : Ask) : (ranked l q).length = l.length := by
  unfold ranked
  rw [List.length_mergeSort, List.length_map]
theorem ranked_mem {l : List Entry} {q : Ask} {x : Row} (h : x ∈ ranked l q) : x.2 ∈ l ∧ x.1 = points x.2 q := by
  have := (List.mergeSort_perm _ leq).mem_iff.mp h
  obtain ⟨e, he, rfl⟩ := List.mem_map.mp this
  exact ⟨he, rfl⟩
/-! each once, by turns -/
def onceTurn (m : List Row) (x : Row) : List Row := if (m.any fun y => y.2.target == x.2.target) = true then m else m ++ [x]
theorem eachOnce_more {rows : List Row} {i : Nat} {x : Row} (h : rows[i]? = some x) : eachOnce (rows.take (i + 1)) = onceTurn (eachOnce (rows.take i)) x := by
  unfold eachOnce
  rw [List.take_add_one, h, Option.toList_some, List.foldl_append]
  rfl
theorem onceTurn_len (m : List Row) (x : Row) : (onceTurn m x).length ≤ m.length + 1 := by
  unfold onceTurn
  split
  · omega
  · rw [List.length_append]; exact Nat.le_refl _
theorem eachOnce_len (rows : List Row) : (eachOnce rows).length ≤ rows.length := by
  have key : ∀ (l m : List Row), (l.foldl onceTurn m).length ≤ m.length + l.length := by
    intro l
    induction l with
    | nil => intro m; exact Nat.le_refl _
    | cons x l ih =>
      intro m
      rw [List.foldl_cons]
      have h1 := ih (onceTurn m x)
      have h2 := onceTurn_len m x
      rw [List.length_cons]
      omega
  have := key rows []
  rw [List.length_nil, Nat.zero_add] at this
  exact this
theorem onceTurn_mem {m : List Row} {x y : Row} (h : y ∈ onceTurn m x) : y ∈ m ∨ y = x := by
  unfold onceTurn at h
  split at h
  · exact .inl h
  · rcases List.mem_append.mp h with h | h
    · exact .inl h
    · exact .inr (by simpa using h)
theorem eachOnce_mem {rows : List Row} {x : Row} (h : x ∈ eachOnce rows) : x ∈ rows := by
  have key : ∀ (l m : List Row) (x : Row), x ∈ l.foldl onceTurn m → x ∈ m ∨ x ∈ l := by
    intro l
    induction l with
    | nil => intro m x h; exact .inl h
    | cons y l ih =>
      intro m x h
      rcases ih _ x h with h | h
      · rcases onceTurn_mem h with h | h
        · exact .inl h
        · exact .inr (h ▸ List.mem_cons_self ..)
      · exact .inr (List.mem_cons_of_mem _ h)
  rcases key rows [] x h with h | h
  · cases h
  · exact h
theorem foundM_mem {l : List Entry} {q : Ask} {least : Nat} {x : Row} (h : x ∈ foundM l q least) : x.2 ∈ l ∧ x.1 = points x.2 q ∧ least ≤ x.1 := by
  have h1 := List.mem_filter.mp (eachOnce_mem h)
  have h2 := ranked_mem h1.1
  exact ⟨h2.1, h2.2, of_decide_eq_true h1.2⟩
theorem foundM_len (l : List Entry) (q : Ask) (least : Nat) : (foundM l q least).length ≤ l.length := by
  have h1 := eachOnce_len ((ranked l q).filter fun x => decide (least ≤ x.1))
  have h2 := List.length_filter_le (fun x : Row => decide (least ≤ x.1)) (ranked l q)
  rw [ranked_len] at h2
  unfold foundM
  omega
/-- something is found where there is an entry -/
theorem foundM_some {l : List Entry} (q : Ask) (h : l ≠ []) : foundM l q 0 ≠ [] := by
  unfold foundM
  have e : ((ranked l q).filter fun x => decide (0 ≤ x.1)) = ranked l q := List.filter_eq_self.mpr fun x _ => by simp
  rw [e]
  have hl := ranked_len l q
  have hr : ranked l q ≠ [] := fun z => by
    rw [z] at hl
    exact h (List.eq_nil_of_length_eq_zero hl.symm)
  cases hrk : ranked l q with
  | nil => exact absurd hrk hr
  | cons x r =>
    unfold eachOnce
    rw [List.foldl_cons]
    have key : ∀ (l m : List Row), m ≠ [] → l.foldl onceTurn m ≠ [] := by
      intro l
      induction l with
      | nil => intro m h; exact h
      | cons y l ih =>
        intro m h
        refine ih _ ?_
        unfold onceTurn
        split
        · exact h
        · simp
    exact key r _ (by simp)
theorem foundM_nil (q : Ask) (least : Nat) : foundM [] q least = [] := by
  have h := foundM_len [] q least
  exact List.eq_nil_of_length_eq_zero (Nat.le_zero.mp h)

/-! ### different sentences -/
def difTurn (m : List Sent) (s : Sent) : List Sent := if s ∈ m then m else m ++ [s]
def different (l : List Sent) : List Sent := l.foldl difTurn []
theorem loop_is : ∀ (l m : List Sent), List.eraseDupsBy.loop (· == ·) l m = (l.foldl difTurn m.reverse)
  | [], m => rfl
  | s :: l, m => by
    rw [List.foldl_cons]
    unfold List.eraseDupsBy.loop
    by_cases h : s ∈ m
    · have e : (m.any fun x => s == x) = true := List.any_eq_true.mpr ⟨s, h, beq_self_eq_true s⟩
      rw [e]
      show List.eraseDupsBy.loop _ l m = _
      rw [loop_is l m]
      unfold difTurn
      rw [if_pos (List.mem_reverse.mpr h)]
    · have e : (m.any fun x => s == x) = false := by
        cases q : (m.any fun x => s == x) with
        | false => rfl
        | true =>
          obtain ⟨x, hx, e⟩ := List.any_eq_true.mp q
          rw [eq_of_beq e] at h
          exact absurd hx h
      rw [e]
      show List.eraseDupsBy.loop _ l (s :: m) = _
      rw [loop_is l (s :: m), List.reverse_cons]
      have e2 : difTurn m.reverse s = m.reverse ++ [s] := if_neg fun z => h (List.mem_reverse.mp z)
      rw [e2]
theorem different_is (l : List Sent) : l.eraseDups = different l := by
  unfold List.eraseDups List.eraseDupsBy
  exact loop_is l []
theorem different_more {l : List Sent} {i : Nat} {s : Sent} (h : l[i]? = some s) : different (l.take (i + 1)) = difTurn (different (l.take i)) s := by
  unfold different
  rw [List.take_add_one, h, Option.toList_some, List.foldl_append]
  rfl
theorem different_len (l : List Sent) : (different l).length ≤ l.length := by
  have key : ∀ (l m : List Sent), (l.foldl difTurn m).length ≤ m.length + l.length := by
    intro l
    induction l with
    | nil => intro m; exact Nat.le_refl _
    | cons x l ih =>
      intro m
      rw [List.foldl_cons]
      have h1 := ih (difTurn m x)
      have h2 : (difTurn m x).length ≤ m.length + 1 := by
        unfold difTurn
        split
        · omega
        · rw [List.length_append]; exact Nat.le_refl _
      rw [List.length_cons]
      omega
  have := key l []
  rw [List.length_nil, Nat.zero_add] at this
  exact this
end TM

namespace TM
open Ut03 (Sent Entry Ask House)
/-- whole numbers as Python's -/
def cI (l : List Nat) : List Int := l.map fun (n : Nat) => (n : Int)
theorem cI_len (l : List Nat) : (cI l).length = l.length := List.length_map ..
theorem cI_take (l : List Nat) (n : Nat) : (cI l).take n = cI (l.take n) := by unfold cI; rw [List.map_take]
theorem cI_drop (l : List Nat) (n : Nat) : (cI l).drop n = cI (l.drop n) := by unfold cI; rw [List.map_drop]
theorem cI_app (l m : List Nat) : cI (l ++ m) = cI l ++ cI m := List.map_append ..
theorem cI_toNat (l : List Nat) : (cI l).map Int.toNat = l := by
  unfold cI
  rw [List.map_map]
  exact (List.map_congr_left fun n _ => Int.toNat_natCast n).trans (List.map_id l)
/-! ### a line's calls, by whole numbers -/
def rowN : List Nat → Option (List Nat × List Nat)
  | [] => none
  | n :: r => if n ≤ r.length then some (r.take n, r.drop n) else none
def rowsN : Nat → List Nat → Option (List (List Nat) × List Nat)
  | 0, r => some ([], r)
  | k + 1, r => match rowN r with
    | none => none
    | some (x, s) => match rowsN k s with
      | none => none
      | some (xs, t) => some (x :: xs, t)
def shapeN (p : Nat) : Option (Nat × Nat) := PyUt03.shape (p : Int)
/-- a call: its number, its numbers, its rows -/
structure RC where
  p : Nat
  nums : List Nat
  rows : List (List Nat)
def RC.raw (c : RC) : List (List Int) := cI (c.p :: c.nums) :: c.rows.map cI
def callN : List Nat → Option (RC × List Nat)
  | [] => none
  | p :: r => match shapeN p with
    | none => none
    | some (n, k) => if r.length < n then none else match rowsN k (r.drop n) with
      | none => none
      | some (xs, t) => some (⟨p, r.take n, xs⟩, t)
def callsN : Nat → List Nat → Option (List RC)
  | _, [] => some []
  | 0, _ :: _ => none
  | f + 1, p :: r => match callN (p :: r) with
    | none => none
    | some (c, t) => match callsN f t with
      | none => none
      | some cs => some (c :: cs)
theorem row_cast : ∀ l : List Nat, PyFlat.row (cI l) = (rowN l).map fun x => (cI x.1, cI x.2)
  | [] => rfl
  | n :: r => by
    show (if 0 ≤ (n : Int) ∧ (n : Int).toNat ≤ (cI r).length then some ((cI r).take (n : Int).toNat, (cI r).drop (n : Int).toNat) else none) = _
    rw [Int.toNat_natCast, cI_len, cI_take, cI_drop]
    show _ = Option.map _ (if n ≤ r.length then some (r.take n, r.drop n) else none)
    by_cases h : n ≤ r.length
    · rw [if_pos ⟨Int.natCast_nonneg n, h⟩, if_pos h]
      rfl
    · rw [if_neg (fun z => h z.2), if_neg h]
      rfl
theorem rows_cast : ∀ (k : Nat) (l : List Nat), PyFlat.rows k (cI l) = (rowsN k l).map fun x => (x.1.map cI, cI x.2)
  | 0, l => rfl
  | k + 1, l => by
    unfold PyFlat.rows rowsN
    rw [row_cast l]
    cases rowN l with
    | none => rfl
    | some x =>
      obtain ⟨x, s⟩ := x
      show (match PyFlat.rows k (cI s) with | none => none | some (xs, t) => some (cI x :: xs, t)) = _
      rw [rows_cast k s]
      show _ = Option.map _ (match rowsN k s with | none => none | some (xs, t) => some (x :: xs, t))
      cases rowsN k s with
      | none => rfl
      | some y => rfl
theorem call_cast : ∀ l : List Nat, PyFlat.call PyUt03.shape (cI l) = (callN l).map fun x => (x.1.raw, cI x.2)
  | [] => rfl
  | p :: r => by
    show (match PyUt03.shape (p : Int) with | none => none | some (n, k) => if (cI r).length < n then none else match PyFlat.rows k ((cI r).drop n) with | none => none | some (xs, t) => some (((p : Int) :: (cI r).take n) :: xs, t)) = Option.map (fun x : RC × List Nat => (x.1.raw, cI x.2)) (match shapeN p with | none => none | some (n, k) => if r.length < n then none else match rowsN k (r.drop n) with | none => none | some (xs, t) => some ((⟨p, r.take n, xs⟩ : RC), t))
    unfold shapeN
    cases PyUt03.shape (p : Int) with
    | none => rfl
    | some nk =>
      obtain ⟨n, k⟩ := nk
      show (if (cI r).length < n then none else match PyFlat.rows k ((cI r).drop n) with | none => none | some (xs, t) => some (((p : Int) :: (cI r).take n) :: xs, t)) = Option.map (fun x : RC × List Nat => (x.1.raw, cI x.2)) (if r.length < n then none else match rowsN k (r.drop n) with | none => none | some (xs, t) => some ((⟨p, r.take n, xs⟩ : RC), t))
      rw [cI_len, cI_take, cI_drop, rows_cast]
      by_cases h : r.length < n
      · rw [if_pos h, if_pos h]
        rfl
      · rw [if_neg h, if_neg h]
        cases rowsN k (r.drop n) with
        | none => rfl
        | some y => rfl
theorem calls_cast : ∀ (f : Nat) (l : List Nat), PyFlat.calls PyUt03.shape f (cI l) = (callsN f l).map fun cs => cs.map RC.raw
  | _, [] => by
    unfold callsN
    unfold PyFlat.calls
    rfl
  | 0, p :: r => rfl
  | f + 1, p :: r => by
    unfold callsN
    show (match PyFlat.call PyUt03.shape (cI (p :: r)) with | none => none | some (c, t) => match PyFlat.calls PyUt03.shape f t with | none => none | some cs => some (c :: cs)) = _
    rw [call_cast]
    cases callN (p :: r) with
    | none => rfl
    | some x =>
      obtain ⟨c, t⟩ := x
      show (match PyFlat.calls PyUt03.shape f (cI t) with | none => none | some cs => some (c.raw :: cs)) = _
      rw [calls_cast f t]
      show _ = Option.map _ (match callsN f t with | none => none | some cs => some (c :: cs))
      cases callsN f t with
      | none => rfl
      | some cs => rfl

/-! ### where the rows lie in the list -/
def listsAt (l : List Nat) (a : Nat) : Nat → List (List Nat) × Nat
  | 0 => ([], a)
  | k + 1 => ((listsAt l a k).1 ++ [(l.drop ((listsAt l a k).2 + 1)).take (l.getD (listsAt l a k).2 0)], (listsAt l a k).2 + 1 + l.getD (listsAt l a k).2 0)
/-- the rows lie within the list -/
def Fits (l : List Nat) (a k : Nat) : Prop := ∀ i, i < k → (listsAt l a i).2 < l.length ∧ (listsAt l a i).2 + 1 + l.getD (listsAt l a i).2 0 ≤ l.length
theorem listsAt_cons (l : List Nat) (a : Nat) : ∀ k, listsAt l a (k + 1) = ((l.drop (a + 1)).take (l.getD a 0) :: (listsAt l (a + 1 + l.getD a 0) k).1, (listsAt l (a + 1 + l.getD a 0) k).2)
  | 0 => rfl
  | k + 1 => by
    have ih := listsAt_cons l a k
    show ((listsAt l a (k + 1)).1 ++ [(l.drop ((listsAt l a (k + 1)).2 + 1)).take (l.getD (listsAt l a (k + 1)).2 0)], (listsAt l a (k + 1)).2 + 1 + l.getD (listsAt l a (k + 1)).2 0) = _
    rw [ih]
    rfl
theorem listsAt_len (l : List Nat) (a : Nat) : ∀ k, (listsAt l a k).1.length = k
  | 0 => rfl
  | k + 1 => by
    show ((listsAt l a k).1 ++ [_]).length = k + 1
    rw [List.length_append, listsAt_len l a k]
    rfl
theorem drop_get {l : List Nat} {a p : Nat} {r : List Nat} (h : l.drop a = p :: r) : a < l.length ∧ l.getD a 0 = p ∧ r = l.drop (a + 1) := by
  have h1 : (l.drop a).length = r.length + 1 := by rw [h]; rfl
  rw [List.length_drop] at h1
  refine ⟨by omega, ?_, ?_⟩
  · have h2 : (l.drop a)[0]? = some p := by rw [h]; rfl
    rw [List.getElem?_drop] at h2
    rw [List.getD_eq_getElem?_getD]
    simp at h2
    rw [h2]; rfl
  · have h2 : (l.drop a).drop 1 = r := by rw [h]; rfl
    rw [List.drop_drop] at h2
    exact h2.symm
theorem rows_lie (l : List Nat) : ∀ (k a : Nat) (xs : List (List Nat)) (t : List Nat), rowsN k (l.drop a) = some (xs, t) → Fits l a k ∧ xs = (listsAt l a k).1 ∧ t = l.drop (listsAt l a k).2
  | 0, a, xs, t, h => by
    have e := Option.some.inj h
    injection e with e1 e2
    exact ⟨fun i hi => absurd hi (Nat.not_lt_zero i), e1.symm, e2.symm⟩
  | k + 1, a, xs, t, h => by
    unfold rowsN at h
    cases hd : l.drop a with
    | nil => rw [hd] at h; cases h
    | cons n r =>
      obtain ⟨ha, hn, hr⟩ := drop_get hd
      rw [hd] at h
      have er : rowN (n :: r) = if n ≤ r.length then some (r.take n, r.drop n) else none := rfl
      rw [er] at h
      by_cases hle : n ≤ r.length
      · rw [if_pos hle] at h
        simp only [] at h
        have e : r.drop n = l.drop (a + 1 + l.getD a 0) := by rw [hr, List.drop_drop, hn]
        cases hk : rowsN k (r.drop n) with
        | none => rw [hk] at h; cases h
        | some y =>
          obtain ⟨ys, u⟩ := y
          rw [hk] at h
          have e1 := Option.some.inj h
          injection e1 with e2 e3
          rw [e] at hk
          obtain ⟨f1, f2, f3⟩ := rows_lie l k _ ys u hk
          refine ⟨fun i hi => ?_, ?_, ?_⟩
          · cases i with
            | zero =>
              show a < l.length ∧ a + 1 + l.getD a 0 ≤ l.length
              rw [hr, List.length_drop] at hle
              omega
            | succ i =>
              rw [listsAt_cons]
              exact f1 i (by omega)
          · rw [listsAt_cons, ← e2, ← f2, hn, ← hr]
          · rw [listsAt_cons, ← e3, ← f3]
      · rw [if_neg hle] at h
        cases h

/-! ### a call of the document -/
def dOf (c : RC) : Option Ut03.Call := match c.p, c.nums, c.rows with
  | 0, [a, b, k], [s, t] => some (.put ⟨s, a, b, k⟩ t)
  | 1, [n], [] => some (.take n)
  | 2, [e, a, b, k], [s] => some (.find e ⟨s, a, b, k⟩)
  | 3, [a, b, k], [s] => some (.best ⟨s, a, b, k⟩)
  | 4, [n], [s] => some (.way n s)
  | 5, [w], [] => some (.with_ w)
  | 6, [e, n], [r] => if r.length < n then none else (Ut03Neutral.asksIn n r).bind fun x => if x.2 = [] then some (.fill e x.1) else none
  | 7, [n], [] => some (.entry n)
  | 8, [], [] => some .count
  | 9, [], [] => some .undo
  | 10, [], [a, b] => some (.near a b)
  | _, _, _ => none
theorem sentIn_is (s r : List Nat) : Ut03Neutral.sentIn (s.length :: (s ++ r)) = some (s, r) := by
  show (if (s ++ r).length < s.length then none else some ((s ++ r).take s.length, (s ++ r).drop s.length)) = _
  rw [if_neg (by rw [List.length_append]; omega), List.take_left, List.drop_left]
theorem askIn_is (a b c : Nat) (s r : List Nat) : Ut03Neutral.askIn (a :: b :: c :: s.length :: (s ++ r)) = some (⟨s, a, b, c⟩, r) := by
  show (Ut03Neutral.sentIn (s.length :: (s ++ r))).map _ = _
  rw [sentIn_is]
  rfl
def small (l : List Nat) : Prop := ∀ n ∈ l, n < 2 ^ 32
theorem callOf_is {l : List Nat} (h : small l) : Ut03Neutral.callOf (cI l) = Ut03Neutral.callIn l := by
  unfold Ut03Neutral.callOf
  have e : (cI l).all Ut03Neutral.nat = true := by
    rw [List.all_eq_true]
    intro z hz
    obtain ⟨n, hn, rfl⟩ := List.mem_map.mp hz
    unfold Ut03Neutral.nat
    have := h n hn
    simp only [Bool.and_eq_true, decide_eq_true_eq]
    omega
  rw [e, if_neg (by decide), cI_toNat]
structure Small (c : RC) : Prop where
  nums : small c.nums
  rows : ∀ r ∈ c.rows, small r ∧ r.length < 2 ^ 32
/-- the numbers of a call as the document's calls have them -/
def flat (c : RC) : List Nat := match c.p, c.rows with
  | 6, [r] => 6 :: c.nums ++ r
  | p, rows => p :: c.nums ++ rows.flatMap fun r => r.length :: r
theorem take_one {l : List Nat} (h : l.length = 1) : ∃ a, l = [a] := by
  match l, h with
  | [a], _ => exact ⟨a, rfl⟩
theorem len2 {l : List Nat} (h : l.length = 2) : ∃ a b, l = [a, b] := by
  match l, h with
  | [a, b], _ => exact ⟨a, b, rfl⟩
theorem len3 {l : List Nat} (h : l.length = 3) : ∃ a b c, l = [a, b, c] := by
  match l, h with
  | [a, b, c], _ => exact ⟨a, b, c, rfl⟩
theorem len4 {l : List Nat} (h : l.length = 4) : ∃ a b c d, l = [a, b, c, d] := by
  match l, h with
  | [a, b, c, d], _ => exact ⟨a, b, c, d, rfl⟩
theorem rlen0 {l : List (List Nat)} (h : l.length = 0) : l = [] := List.eq_nil_of_length_eq_zero h
theorem rlen1 {l : List (List Nat)} (h : l.length = 1) : ∃ a, l = [a] := by
  match l, h with
  | [a], _ => exact ⟨a, rfl⟩
theorem rlen2 {l : List (List Nat)} (h : l.length = 2) : ∃ a b, l = [a, b] := by
  match l, h with
  | [a, b], _ => exact ⟨a, b, rfl⟩
/-- the shapes -/
inductive Shaped : RC → Prop
  | put (a b k : Nat) (s t : List Nat) : Shaped ⟨0, [a, b, k], [s, t]⟩
  | take (n : Nat) : Shaped ⟨1, [n], []⟩
  | find (e a b k : Nat) (s : List Nat) : Shaped ⟨2, [e, a, b, k], [s]⟩
  | best (a b k : Nat) (s : List Nat) : Shaped ⟨3, [a, b, k], [s]⟩
  | way (n : Nat) (s : List Nat) : Shaped ⟨4, [n], [s]⟩
  | with_ (w : Nat) : Shaped ⟨5, [w], []⟩
  | fill (e n : Nat) (r : List Nat) : Shaped ⟨6, [e, n], [r]⟩
  | entry (n : Nat) : Shaped ⟨7, [n], []⟩
  | count : Shaped ⟨8, [], []⟩
  | undo : Shaped ⟨9, [], []⟩
  | near (a b : List Nat) : Shaped ⟨10, [], [a, b]⟩
theorem shaped_of {p n k : Nat} {nums : List Nat} {rows : List (List Nat)} (h : shapeN p = some (n, k)) (hn : nums.length = n) (hk : rows.length = k) : Shaped ⟨p, nums, rows⟩ := by
  unfold shapeN PyUt03.shape at h
  by_cases h0 : p = 0
  · subst h0
    cases h
    obtain ⟨a, b, c, rfl⟩ := len3 hn
    obtain ⟨s, t, rfl⟩ := rlen2 hk
    exact .put a b c s t
  rw [if_neg (by omega)] at h
  by_cases h1 : p = 1
  · subst h1
    cases h
    obtain ⟨a, rfl⟩ := take_one hn
    obtain rfl := rlen0 hk
    exact .take a
  rw [if_neg (by omega)] at h
  by_cases h2 : p = 2
  · subst h2
    cases h
    obtain ⟨a, b, c, d, rfl⟩ := len4 hn
    obtain ⟨s, rfl⟩ := rlen1 hk
    exact .find a b c d s
  rw [if_neg (by omega)] at h
  by_cases h3 : p = 3
  · subst h3
    cases h
    obtain ⟨a, b, c, rfl⟩ := len3 hn
    obtain ⟨s, rfl⟩ := rlen1 hk
    exact .best a b c s
  rw [if_neg (by omega)] at h
  by_cases h4 : p = 4
  · subst h4
    cases h
    obtain ⟨a, rfl⟩ := take_one hn
    obtain ⟨s, rfl⟩ := rlen1 hk
    exact .way a s
  rw [if_neg (by omega)] at h
  by_cases h5 : p = 5
  · subst h5
    cases h
    obtain ⟨a, rfl⟩ := take_one hn
    obtain rfl := rlen0 hk
    exact .with_ a
  rw [if_neg (by omega)] at h
  by_cases h6 : p = 6
  · subst h6
    cases h
    obtain ⟨a, b, rfl⟩ := len2 hn
    obtain ⟨s, rfl⟩ := rlen1 hk
    exact .fill a b s
  rw [if_neg (by omega)] at h
  by_cases h7 : p = 7
  · subst h7
    cases h
    obtain ⟨a, rfl⟩ := take_one hn
    obtain rfl := rlen0 hk
    exact .entry a
  rw [if_neg (by omega)] at h
  by_cases h8 : p = 8
  · subst h8
    cases h
    obtain rfl := List.eq_nil_of_length_eq_zero hn
    obtain rfl := rlen0 hk
    exact .count
  rw [if_neg (by omega)] at h
  by_cases h9 : p = 9
  · subst h9
    cases h
    obtain rfl := List.eq_nil_of_length_eq_zero hn
    obtain rfl := rlen0 hk
    exact .undo
  rw [if_neg (by omega)] at h
  by_cases h10 : p = 10
  · subst h10
    cases h
    obtain rfl := List.eq_nil_of_length_eq_zero hn
    obtain ⟨s, t, rfl⟩ := rlen2 hk
    exact .near s t
  rw [if_neg (by omega)] at h
  cases h
theorem mem_lt {l : List Nat} (h : small l) (hl : l.length < 2 ^ 32) : small (l.length :: l) := fun n hn => by
  rcases List.mem_cons.mp hn with e | e
  · rw [e]; exact hl
  · exact h n e
theorem small_app {l m : List Nat} (h : small l) (h' : small m) : small (l ++ m) := fun n hn => (List.mem_append.mp hn).elim (h n) (h' n)
theorem small_cons {p : Nat} {l : List Nat} (hp : p < 2 ^ 32) (h : small l) : small (p :: l) := fun n hn => by
  rcases List.mem_cons.mp hn with e | e
  · rw [e]; exact hp
  · exact h n e
/-- what the document's call is -/
theorem call_is {c : RC} (S : Shaped c) (sm : Small c) : Ut03Neutral.callOf ((PyUt03.whole c.raw).headD []) = dOf c := by
  have sn := sm.nums
  have sr := sm.rows
  cases S with
  | put a b k s t =>
    have h1 := sr s (by simp)
    have h2 := sr t (by simp)
    have e : (PyUt03.whole (RC.raw ⟨0, [a, b, k], [s, t]⟩)).headD [] = cI (0 :: a :: b :: k :: s.length :: (s ++ (t.length :: (t ++ [])))) := by
      show ([(0 : Int)] ++ [(a : Int)] ++ [(b : Int)] ++ [(k : Int)] ++ [((cI s).length : Int)] ++ cI s ++ [((cI t).length : Int)] ++ cI t) = _
      simp [cI]
    rw [e, callOf_is]
    · show (Ut03Neutral.askIn (a :: b :: k :: s.length :: (s ++ (t.length :: (t ++ []))))).bind _ = _
      rw [askIn_is]
      show (Ut03Neutral.sentIn (t.length :: (t ++ []))).bind _ = _
      rw [sentIn_is]
      rfl
    · refine small_cons (by decide) (small_cons (sn a (by simp)) (small_cons (sn b (by simp)) (small_cons (sn k (by simp)) (small_cons h1.2 (small_app h1.1 (small_cons h2.2 (small_app h2.1 ?_)))))))
      intro n hn; cases hn
  | take n =>
    have e : (PyUt03.whole (RC.raw ⟨1, [n], []⟩)).headD [] = cI [1, n] := rfl
    rw [e, callOf_is]
    · rfl
    · refine small_cons (by decide) (small_cons (sn n (by simp)) ?_)
      intro n hn; cases hn
  | find e a b k s =>
    have h1 := sr s (by simp)
    have e1 : (PyUt03.whole (RC.raw ⟨2, [e, a, b, k], [s]⟩)).headD [] = cI (2 :: e :: a :: b :: k :: s.length :: (s ++ [])) := by
      show ([(2 : Int)] ++ [(e : Int)] ++ [(a : Int)] ++ [(b : Int)] ++ [(k : Int)] ++ [((cI s).length : Int)] ++ cI s) = _
      simp [cI]
    rw [e1, callOf_is]
    · show (Ut03Neutral.askIn (a :: b :: k :: s.length :: (s ++ []))).bind _ = _
      rw [askIn_is]
      rfl
    · refine small_cons (by decide) (small_cons (sn e (by simp)) (small_cons (sn a (by simp)) (small_cons (sn b (by simp)) (small_cons (sn k (by simp)) (small_cons h1.2 (small_app h1.1 ?_))))))
      intro n hn; cases hn
  | best a b k s =>
    have h1 := sr s (by simp)
    have e1 : (PyUt03.whole (RC.raw ⟨3, [a, b, k], [s]⟩)).headD [] = cI (3 :: a :: b :: k :: s.length :: (s ++ [])) := by
      show ([(3 : Int)] ++ [(a : Int)] ++ [(b : Int)] ++ [(k : Int)] ++ [((cI s).length : Int)] ++ cI s) = _
      simp [cI]
    rw [e1, callOf_is]
    · show (Ut03Neutral.askIn (a :: b :: k :: s.length :: (s ++ []))).bind _ = _
      rw [askIn_is]
      rfl
    · refine small_cons (by decide) (small_cons (sn a (by simp)) (small_cons (sn b (by simp)) (small_cons (sn k (by simp)) (small_cons h1.2 (small_app h1.1 ?_)))))
      intro n hn; cases hn
  | way n s =>
    have h1 := sr s (by simp)
    have e1 : (PyUt03.whole (RC.raw ⟨4, [n], [s]⟩)).headD [] = cI (4 :: n :: s.length :: (s ++ [])) := by
      show ([(4 : Int)] ++ [(n : Int)] ++ [((cI s).length : Int)] ++ cI s) = _
      simp [cI]
    rw [e1, callOf_is]
    · show (Ut03Neutral.sentIn (s.length :: (s ++ []))).bind _ = _
      rw [sentIn_is]
      rfl
    · refine small_cons (by decide) (small_cons (sn n (by simp)) (small_cons h1.2 (small_app h1.1 ?_)))
      intro n hn; cases hn
  | with_ w =>
    have e : (PyUt03.whole (RC.raw ⟨5, [w], []⟩)).headD [] = cI [5, w] := rfl
    rw [e, callOf_is]
    · rfl
    · refine small_cons (by decide) (small_cons (sn w (by simp)) ?_)
      intro n hn; cases hn
  | fill e n r =>
    have h1 := sr r (by simp)
    have e1 : (PyUt03.whole (RC.raw ⟨6, [e, n], [r]⟩)).headD [] = cI (6 :: e :: n :: r) := by
      show ([(6 : Int)] ++ [(e : Int)] ++ [(n : Int)] ++ cI r) = _
      simp [cI]
    rw [e1, callOf_is]
    · rfl
    · exact small_cons (by decide) (small_cons (sn e (by simp)) (small_cons (sn n (by simp)) h1.1))
  | entry n =>
    have e : (PyUt03.whole (RC.raw ⟨7, [n], []⟩)).headD [] = cI [7, n] := rfl
    rw [e, callOf_is]
    · rfl
    · refine small_cons (by decide) (small_cons (sn n (by simp)) ?_)
      intro n hn; cases hn
  | count =>
    have e : (PyUt03.whole (RC.raw ⟨8, [], []⟩)).headD [] = cI [8] := rfl
    rw [e, callOf_is]
    · rfl
    · refine small_cons (by decide) ?_
      intro n hn; cases hn
  | undo =>
    have e : (PyUt03.whole (RC.raw ⟨9, [], []⟩)).headD [] = cI [9] := rfl
    rw [e, callOf_is]
    · rfl
    · refine small_cons (by decide) ?_
      intro n hn; cases hn
  | near a b =>
    have h1 := sr a (by simp)
    have h2 := sr b (by simp)
    have e : (PyUt03.whole (RC.raw ⟨10, [], [a, b]⟩)).headD [] = cI (10 :: a.length :: (a ++ (b.length :: (b ++ [])))) := by
      show ([(10 : Int)] ++ [((cI a).length : Int)] ++ cI a ++ [((cI b).length : Int)] ++ cI b) = _
      simp [cI]
    rw [e, callOf_is]
    · show (Ut03Neutral.sentIn (a.length :: (a ++ (b.length :: (b ++ []))))).bind _ = _
      rw [sentIn_is]
      show (Ut03Neutral.sentIn (b.length :: (b ++ []))).bind _ = _
      rw [sentIn_is]
      rfl
    · refine small_cons (by decide) (small_cons h1.2 (small_app h1.1 (small_cons h2.2 (small_app h2.1 ?_))))
      intro n hn; cases hn
end TM

namespace TM
open Ut03 (Sent Entry Ask House)
/-! ### what holds of a memory -/
structure Worded (e : Entry) : Prop where
  s1 : 1 ≤ e.source.length
  s2 : e.source.length ≤ 20
  t1 : 1 ≤ e.target.length
  t2 : e.target.length ≤ 20
structure EOk (n : Nat) (l : List Entry) : Prop where
  rise : Rising l
  most : l.length ≤ 30
  each : ∀ e ∈ l, e.number < n ∧ Worded e
structure Good (g : House) : Prop where
  now : EOk g.given g.entries
  old : ∀ l ∈ g.old, EOk g.given l
theorem EOk.mono {n m : Nat} {l : List Entry} (h : EOk n l) (hm : n ≤ m) : EOk m l := ⟨h.rise, h.most, fun e he => ⟨by have := (h.each e he).1; omega, (h.each e he).2⟩⟩
theorem EOk.filter {n : Nat} {l : List Entry} (h : EOk n l) (p : Entry → Bool) : EOk n (l.filter p) :=
  ⟨List.Pairwise.filter _ h.rise, Nat.le_trans (List.length_filter_le _ _) h.most, fun e he => h.each e (List.mem_filter.mp he).1⟩
theorem good_init : Good Ut03.init := ⟨⟨List.Pairwise.nil, Nat.zero_le _, fun e he => by cases he⟩, fun l hl => by cases hl⟩
theorem sentOk_len {s : Sent} (h : Ut03.sentOk s = true) : s.length ≤ 20 := by
  unfold Ut03.sentOk at h
  rw [Bool.and_eq_true] at h
  exact of_decide_eq_true h.1
theorem askOk_of {q : Ask} (h : Ut03.askOk q = true) : 1 ≤ q.source.length ∧ q.source.length ≤ 20 := by
  unfold Ut03.askOk at h
  simp only [Bool.and_eq_true, decide_eq_true_eq] at h
  exact ⟨h.2.1, sentOk_len h.1⟩
theorem good_put {g : House} (G : Good g) {q : Ask} {t : Sent} {p : Entry → Bool} (ha : Ut03.askOk q = true) (ht : Ut03.sentOk t = true) (hn : t ≠ []) (hl : (g.entries.filter p).length < 30) :
    Good { entries := g.entries.filter p ++ [⟨g.given, q.source, t, q.ahead, q.behind, q.client⟩], given := g.given + 1, old := g.entries :: g.old } := by
  have h1 := G.now.filter p
  refine ⟨⟨?_, ?_, ?_⟩, ?_⟩
  · refine List.pairwise_append.mpr ⟨h1.rise, List.pairwise_singleton _ _, fun a ha b hb => ?_⟩
    have e : b = ⟨g.given, q.source, t, q.ahead, q.behind, q.client⟩ := by simpa using hb
    rw [e]
    exact (h1.each a ha).1
  · show (g.entries.filter p ++ [_]).length ≤ 30
    rw [List.length_append]
    exact hl
  · intro e he
    rcases List.mem_append.mp he with h | h
    · have := h1.each e h
      exact ⟨Nat.lt_succ_of_lt this.1, this.2⟩
    · have e2 : e = ⟨g.given, q.source, t, q.ahead, q.behind, q.client⟩ := by simpa using h
      rw [e2]
      have := askOk_of ha
      refine ⟨Nat.lt_succ_self _, this.1, this.2, ?_, sentOk_len ht⟩
      show 1 ≤ t.length
      cases t with
      | nil => exact absurd rfl hn
      | cons a r => exact Nat.succ_le_succ (Nat.zero_le _)
  · intro l hl
    rcases List.mem_cons.mp hl with e | h
    · rw [e]; exact G.now.mono (Nat.le_succ _)
    · exact (G.old l h).mono (Nat.le_succ _)
theorem good_take {g : House} (G : Good g) (p : Entry → Bool) : Good (Ut03.changes g (g.entries.filter p)) :=
  ⟨G.now.filter p, fun l hl => (List.mem_cons.mp hl).elim (fun e => e ▸ G.now) (G.old l)⟩
theorem good_undo {g : House} (G : Good g) {l : List Entry} {r : List (List Entry)} (h : g.old = l :: r) : Good { g with entries := l, old := r } :=
  ⟨G.old l (h ▸ List.mem_cons_self ..), fun m hm => G.old m (h ▸ List.mem_cons_of_mem _ hm)⟩

/-! ### the line -/
def runs (g : House) (cs : List RC) : List (List Int) := PyFlat.played (fun s c => Ut03Neutral.step s (c.headD [])) g ((cs.map RC.raw).map PyUt03.whole)
structure Goes (l : List Nat) (place : Nat) (g : House) (found all : List Int) : Prop where
  ex : ∃ f cs, callsN f (l.drop place) = some cs ∧ (∀ c ∈ cs, (Ut03Neutral.callOf ((PyUt03.whole c.raw).headD [])).isSome = true) ∧ all = found ++ PyFlat.told (runs g cs)
theorem Goes.done {l : List Nat} {place : Nat} {g : House} {found all : List Int} (h : Goes l place g found all) (hp : l.length ≤ place) : all = found := by
  obtain ⟨f, cs, h1, _, h3⟩ := h.ex
  rw [List.drop_of_length_le hp] at h1
  have e : callsN f [] = some [] := by unfold callsN; rfl
  rw [e] at h1
  cases h1
  rw [h3]
  show found ++ [] = found
  rw [List.append_nil]
theorem listsAt_small {l : List Nat} (hs : small l) (a : Nat) : ∀ k, ∀ r ∈ (listsAt l a k).1, small r ∧ r.length ≤ l.length
  | 0, r, hr => by cases hr
  | k + 1, r, hr => by
    rcases List.mem_append.mp hr with h | h
    · exact listsAt_small hs a k r h
    · have e : r = (l.drop ((listsAt l a k).2 + 1)).take (l.getD (listsAt l a k).2 0) := by simpa using h
      rw [e]
      refine ⟨fun n hn => hs n (List.mem_of_mem_drop (List.mem_of_mem_take hn)), ?_⟩
      rw [List.length_take, List.length_drop]
      omega
theorem listsAt_ge (l : List Nat) (a : Nat) : ∀ k, a ≤ (listsAt l a k).2
  | 0 => Nat.le_refl _
  | k + 1 => by
    have := listsAt_ge l a k
    show a ≤ (listsAt l a k).2 + 1 + _
    omega
theorem listsAt_le {l : List Nat} {a k : Nat} (h : Fits l a k) (ha : a ≤ l.length) : ∀ i, i ≤ k → (listsAt l a i).2 ≤ l.length
  | 0, _ => ha
  | i + 1, hi => (h i (by omega)).2
theorem Goes.turn {l : List Nat} {place : Nat} {g : House} {found all : List Int} (h : Goes l place g found all) (hs : small l) (hl : l.length < 2 ^ 32) (hp : place < l.length) :
    ∃ n k x, shapeN (l.getD place 0) = some (n, k) ∧ place + 1 + n ≤ l.length ∧ Fits l (place + 1 + n) k ∧ Shaped ⟨l.getD place 0, (l.drop (place + 1)).take n, (listsAt l (place + 1 + n) k).1⟩ ∧
      dOf ⟨l.getD place 0, (l.drop (place + 1)).take n, (listsAt l (place + 1 + n) k).1⟩ = some x ∧
      Goes l (listsAt l (place + 1 + n) k).2 (Ut03.step g x).1 (found ++ (((Ut03.step g x).2.length : Int) :: (Ut03.step g x).2)) all := by
  obtain ⟨f, cs, h1, h2, h3⟩ := h.ex
  cases hd : l.drop place with
  | nil =>
    have : (l.drop place).length = 0 := by rw [hd]; rfl
    rw [List.length_drop] at this
    omega
  | cons p r =>
    obtain ⟨_, hpv, hr⟩ := drop_get hd
    rw [hd] at h1
    cases f with
    | zero => unfold callsN at h1; cases h1
    | succ f =>
      have e1 : callsN (f + 1) (p :: r) = match callN (p :: r) with | none => none | some (c, t) => match callsN f t with | none => none | some cs => some (c :: cs) := by
        rw [callsN] <;> rfl
      rw [e1] at h1
      cases hc : callN (p :: r) with
      | none => rw [hc] at h1; cases h1
      | some ct =>
        obtain ⟨c, t⟩ := ct
        rw [hc] at h1
        simp only [] at h1
        cases hcs : callsN f t with
        | none => rw [hcs] at h1; cases h1
        | some cs' =>
          rw [hcs] at h1
          have e2 : c :: cs' = cs := Option.some.inj h1
          have e3 : callN (p :: r) = match shapeN p with | none => none | some (n, k) => if r.length < n then none else match rowsN k (r.drop n) with | none => none | some (xs, t) => some ((⟨p, r.take n, xs⟩ : RC), t) := rfl
          rw [e3] at hc
          cases hsh : shapeN p with
          | none => rw [hsh] at hc; cases hc
          | some nk =>
            obtain ⟨n, k⟩ := nk
            rw [hsh] at hc
            simp only [] at hc
            by_cases hle : r.length < n
            · rw [if_pos hle] at hc; cases hc
            · rw [if_neg hle] at hc
              have er : r.drop n = l.drop (place + 1 + n) := by rw [hr, List.drop_drop]
              rw [er] at hc
              cases hrw : rowsN k (l.drop (place + 1 + n)) with
              | none => rw [hrw] at hc; cases hc
              | some y =>
                obtain ⟨xs, t'⟩ := y
                rw [hrw] at hc
                simp only [] at hc
                have e4 := Option.some.inj hc
                injection e4 with e5 e6
                obtain ⟨f1, f2, f3⟩ := rows_lie l k _ xs t' hrw
                have hn : place + 1 + n ≤ l.length := by
                  rw [hr, List.length_drop] at hle
                  omega
                have eN : r.take n = (l.drop (place + 1)).take n := by rw [hr]
                rw [← e6, f3] at hcs
                subst e2
                subst e5
                rw [f2, eN] at h2 h3
                rw [← hpv] at h2 h3 hsh
                have hlen : ((l.drop (place + 1)).take n).length = n := by
                  rw [List.length_take, List.length_drop]
                  omega
                have S := shaped_of hsh hlen (listsAt_len l (place + 1 + n) k)
                have sm : Small ⟨l.getD place 0, (l.drop (place + 1)).take n, (listsAt l (place + 1 + n) k).1⟩ :=
                  ⟨fun m hm => hs m (List.mem_of_mem_drop (List.mem_of_mem_take hm)), fun q hq => ⟨(listsAt_small hs _ k q hq).1, Nat.lt_of_le_of_lt (listsAt_small hs _ k q hq).2 hl⟩⟩
                have ec := call_is S sm
                have some1 := h2 _ (List.mem_cons_self ..)
                rw [ec] at some1
                cases hx : dOf ⟨l.getD place 0, (l.drop (place + 1)).take n, (listsAt l (place + 1 + n) k).1⟩ with
                | none => rw [hx] at some1; cases some1
                | some x =>
                  refine ⟨n, k, x, hsh, hn, f1, S, hx, f, cs', hcs, fun c hc => h2 c (List.mem_cons_of_mem _ hc), ?_⟩
                  have est : ∀ s, Ut03Neutral.step s ((PyUt03.whole (RC.raw ⟨l.getD place 0, (l.drop (place + 1)).take n, (listsAt l (place + 1 + n) k).1⟩)).headD []) = Ut03.step s x := fun s => by
                    unfold Ut03Neutral.step
                    rw [ec, hx]
                  rw [h3]
                  have er2 : runs g (⟨l.getD place 0, (l.drop (place + 1)).take n, (listsAt l (place + 1 + n) k).1⟩ :: cs') = (Ut03.step g x).2 :: runs (Ut03.step g x).1 cs' := by
                    unfold runs
                    rw [List.map_cons, List.map_cons]
                    show ((Ut03Neutral.step g _).2 :: PyFlat.played (fun s c => Ut03Neutral.step s (c.headD [])) (Ut03Neutral.step g _).1 _) = _
                    rw [est g]
                  rw [er2]
                  show found ++ PyFlat.told ((Ut03.step g x).2 :: runs (Ut03.step g x).1 cs') = _
                  unfold PyFlat.told
                  rw [List.flatMap_cons, List.append_assoc]
theorem asked_goes {l : List Nat} (h : PyUt03.answers_asked (cI l) = true) : Goes l 0 Ut03.init [] (PyUt03.answers (cI l)) ∧ (PyUt03.answers (cI l)).length ≤ 10000000 := by
  have e0 : PyUt03.answers_asked (cI l) = match PyFlat.calls PyUt03.shape (cI l).length (cI l) with
    | none => false
    | some raw => !raw.isEmpty && PyFlat.atMost 30 raw && PyInside.calls PyUt03.bound raw && Ut03Neutral.asked ((raw.map PyUt03.whole).map fun c => c.headD []) && PyFlat.short 10000000 (PyUt03.answers (cI l)) := rfl
  have a0 : PyUt03.answers (cI l) = match PyUt03.calls (cI l) with
    | none => []
    | some cs => PyFlat.told (PyFlat.played (fun s c => Ut03Neutral.step s (c.headD [])) Ut03Neutral.start cs) := rfl
  have c0 : PyUt03.calls (cI l) = match PyFlat.calls PyUt03.shape (cI l).length (cI l) with
    | none => none
    | some cs => some (cs.map PyUt03.whole) := rfl
  rw [e0] at h
  rw [calls_cast] at h c0
  cases hc : callsN (cI l).length l with
  | none => rw [hc] at h; cases h
  | some cs =>
    rw [hc] at h c0
    simp only [Option.map_some] at h c0
    rw [c0] at a0
    simp only [] at a0
    simp only [Bool.and_eq_true] at h
    obtain ⟨⟨⟨⟨_, _⟩, _⟩, h4⟩, h5⟩ := h
    refine ⟨⟨(cI l).length, cs, hc, fun c hm => ?_, a0⟩, of_decide_eq_true h5⟩
    unfold Ut03Neutral.asked at h4
    rw [Bool.and_eq_true] at h4
    have := List.all_eq_true.mp h4.1 ((PyUt03.whole c.raw).headD []) (List.mem_map.mpr ⟨_, List.mem_map.mpr ⟨_, List.mem_map.mpr ⟨c, hm, rfl⟩, rfl⟩, rfl⟩)
    exact this
end TM

set_option autoImplicit true
/-! Rules of our own: a lambda of one parameter as the key of sorted(.., key=.., reverse=True). -/
namespace TW
open PySem PySem.Spec PyProof.Rows L2 LamX
/-- what is known of a lambda that was made: its object, with its code object at c' -/
def LamO (f c' : Addr) (q : Str) (params : Arguments) (body : Expr) (scope : Scope) : HO :=
  .ext fun h => ∃ pm ctv : Value, h.get? f = some (PySem.W.kla_obj "<lambda>" q params body scope [] pm c' ctv)
theorem lamO_ok {P : Program} {w : World} {H : Hp} {h : Heap} {f c' : Addr} {q : Str} {params : Arguments} {body : Expr} {scope : Scope} {pm ctv : Value}
    (e : h.get? f = some (PySem.W.kla_obj "<lambda>" q params body scope [] pm c' ctv)) : ObjOk P w H h f (LamO f c' q params body scope) :=
  ⟨⟨pm, ctv, e⟩, ⟨_, e⟩, fun h1 h2 ⟨pm, ctv, z⟩ st => ⟨pm, ctv, st _ z⟩⟩
theorem lamO_ne {f c' : Addr} {q : Str} {params : Arguments} {body : Expr} {scope : Scope} (ps : Array Value) : LamO f c' q params body scope ≠ .tbl ps := fun z => by
  unfold LamO at z
  cases z
def tLamE (P : Addr) (q : Str) (params : Arguments) (body : Expr) (scope : Scope) : TE := fun _ H Q => TabS H P q ∧
  ∀ (f c' : Addr) (H1 : Hp), ExtN H H1 → TabS H1 P q → H1 c' = some (CodeO c' q) → H1 f = some (LamO f c' q params body scope) → Q (.ref f) H1
section
variable {X : Cx}
theorem pe_lamE {c P : Addr} {q : Str} {params : Arguments} {body : Expr} {scope : Scope} {pos : Pos} (TB : TabB X.base X.mg c P) (hcode : X.env.code = .ref c) (hq : X.env.qual ++ "<lambda>" = q)
    (hdef : defaultsOf params X.env = ([], [])) (hfree : ∀ y ∈ scope.names, y.2 ≠ .free) (hclo : cloFrom X.env.cells scope.names [] = []) : PE X (.Lambda params body scope pos) (tLamE P q params body scope) := by
  refine ⟨fun pins s σ H Q I h => ?_⟩
  obtain ⟨⟨ps, hP, ht, ha⟩, hQ⟩ := h
  refine PySem.W.kla_eval hdef ?_
  rw [hq]
  have bP : s.heap.BuiltinsAt X.mg P := TB.bm.keeps I.bk
  have hP' : s.heap.get? P = some { cls := .none, data := .fields ps } := I.hok P _ hP
  have hcl : closureFor scope X.env = pure [] := by
    rw [closure_ok fun y hy e => absurd e (hfree y hy), hclo]
  cases hc : codeAmong pos ps.toList with
  | none =>
    refine PySem.W.kla_makeFunction (mg := X.mg) (c := c) (P := P) (ps := ps) hcl I.ok.glob (I.mod.glob.keeps I.bk) hcode (TB.code.keeps I.bk) hP' ht hc TB.gP bP fun c' ctv h' tk hx hge hlt hrec htb => ?_
    obtain ⟨c2, oc, vs, t, e2, hoc, hd, hv⟩ := hrec
    cases e2
    have nC : H c' = none := I.hok.fresh hge
    have I1 := inv_table (t' := tk) (more := #[rawInt pos.line, rawInt pos.col, .ref c']) (h' := h') I hP hx htb hge ⟨oc, vs, t, hoc, hd, hv⟩
    have I2 := I1.laid (t' := tk) (a := h'.objs.size) (o := LamO h'.objs.size c' q params body scope) (h' := h'.push (PySem.W.kla_obj "<lambda>" q params body scope [] ((X.mg "__name__").getD .none) c' ctv))
      (fun b o e => Heap.get?_push_of_some _ e) (Nat.le_refl _) (lamO_ok (Heap.get?_push_size _ rfl))
    have sm : ∀ b o, upd (upd H P (.tbl (ps ++ #[rawInt pos.line, rawInt pos.col, .ref c']))) c' (CodeO c' q) b = some o → b ≠ h'.objs.size := fun b o e => Nat.ne_of_lt (I1.hok.lt e)
    have eL : (ps ++ #[rawInt pos.line, rawInt pos.col, .ref c']).toList = ps.toList ++ [rawInt pos.line, rawInt pos.col, .ref c'] := by simp
    have hE : ExtN H (upd (upd H P (.tbl (ps ++ #[rawInt pos.line, rawInt pos.col, .ref c']))) c' (CodeO c' q)) := fun b o e n => by
      rw [upd_ne (ne_of_none e nC), upd_ne (fun z => n ps (Option.some.inj (e.symm.trans (by rw [z]; exact hP))))]
      exact e
    have tb1 : upd (upd H P (.tbl (ps ++ #[rawInt pos.line, rawInt pos.col, .ref c']))) c' (CodeO c' q) P = some (.tbl (ps ++ #[rawInt pos.line, rawInt pos.col, .ref c'])) := by
      rw [upd_ne (ne_of_none hP nC), upd_same]
    have T1 : TabS (upd (upd H P (.tbl (ps ++ #[rawInt pos.line, rawInt pos.col, .ref c']))) c' (CodeO c' q)) P q := by
      refine ⟨_, tb1, by rw [eL]; exact PySem.TriplesOk_snoc _ _ _ _ ht, fun p' cv hcv => ?_⟩
      rw [eL] at hcv
      rcases among_app _ ht hcv with z | z
      · obtain ⟨c0, e1, e2⟩ := ha p' cv z
        exact ⟨c0, e1, hE _ _ e2 codeO_ne⟩
      · exact ⟨c', z, upd_same⟩
    have keep : ∀ b o, upd (upd H P (.tbl (ps ++ #[rawInt pos.line, rawInt pos.col, .ref c']))) c' (CodeO c' q) b = some o →
        upd (upd (upd H P (.tbl (ps ++ #[rawInt pos.line, rawInt pos.col, .ref c']))) c' (CodeO c' q)) h'.objs.size (LamO h'.objs.size c' q params body scope) b = some o := fun b o e => by
      rw [upd_ne (sm b o e)]
      exact e
    exact ⟨.ref h'.objs.size, _, I2, rfl, hQ h'.objs.size c' _ (hE.trans (ExtN.of keep)) (T1.ext keep) (keep _ _ upd_same) upd_same⟩
  | some cv =>
    obtain ⟨c', e, hco⟩ := ha pos cv hc
    subst e
    refine PySem.W.kla_makeFunctionHit (mg := X.mg) (c := c) (P := P) (ps := ps) hcl I.ok.glob (I.mod.glob.keeps I.bk) hcode (TB.code.keeps I.bk) hP' ht hc bP fun ctv h' tk hx hsz => ?_
    have I1 : Inv X pins σ H { s with heap := h', toks := tk } := I.kept hx
    have I2 := I1.laid (t' := tk) (a := h'.objs.size) (o := LamO h'.objs.size c' q params body scope) (h' := h'.push (PySem.W.kla_obj "<lambda>" q params body scope [] ((X.mg "__name__").getD .none) c' ctv))
      (fun b o e => Heap.get?_push_of_some _ e) (Nat.le_refl _) (lamO_ok (Heap.get?_push_size _ rfl))
    have keep : ∀ b o, H b = some o → upd H h'.objs.size (LamO h'.objs.size c' q params body scope) b = some o := fun b o e => by
      rw [upd_ne (Nat.ne_of_lt (I1.hok.lt e))]
      exact e
    have T0 : TabS H P q := ⟨ps, hP, ht, ha⟩
    exact ⟨.ref h'.objs.size, _, I2, rfl, hQ h'.objs.size c' _ (ExtN.of keep) (T0.ext keep) (keep _ _ hco) upd_same⟩
end

/-! ### the key's call: row -> (row[0], row[1]) -/
/-- a lambda of one parameter x whose body is (x[0], x[1]) -/
structure PairLam (params : Arguments) (body : Expr) (scope : Scope) : Prop where
  ex : ∃ (p1 p2 p3 p4 p5 p6 p7 : Pos) (k1 k2 x1 : Nat), body = .Tuple [.Subscript (.Name "row" p1) (.Constant (.int 0) k1 p2) p3, .Subscript (.Name "row" p4) (.Constant (.int 1) k2 p5) p6] x1 p7
  sc : scope.names = [(("row" : Str), NameKind.local)]
  kind : scope.kind = .function
  co : scope.isCoroutine = false
  gen : scope.isGenerator = false
  bind : ∀ (q : Str) (pm cdv ctv v : Value), bindArgs (PySem.W.kla_fn "<lambda>" q params body scope [] pm cdv ctv) ⟨[v], []⟩ = pure [(("row" : Str), v)]
section
variable {prog : Program} {w : World} {A : Around} {s : Shared}
theorem row_at {env : Env} {E : Value → Shared → Prop} {m : Str → Option Value} {p1 p2 p3 : Pos} {k1 j : Nat} {z : Int} {t : Addr} {its : Array Value} {u : Value} {Q : Value → Shared → Prop}
    (hk : env.scope.kind = .function) (hl : env.kindOf "row" = some .local) (hn : s.heap.Ns env.locals m) (hm : m "row" = some (.ref t)) (ht : IsTup s.heap t its) (hz : z = (j : Int)) (hj : its[j]? = some u) (hb : j < 2)
    (h : Q u { s with toks := s.toks + 1 }) : wpAny (model prog w) A (eval (.Subscript (.Name "row" p1) (.Constant (.int z) k1 p2) p3) env) Q E s := by
  refine Subscript_ (wpAny_Name (wpAny_loadName_local hk hl hn hm (wpAny_Constant_int ?_)) (by decide))
  have hsz : j < its.size := (Array.getElem?_eq_some_iff.mp hj).1
  have hix : seqIndex? z its.size = some j := by
    rw [hz]
    unfold seqIndex?
    simp only []
    split <;> simp_all <;> omega
  refine subscriptTail_builtinR (x := u) (ht.typeIs) slot_tuple_getitem.lookup (getItem_tuple (j := j) (Q := fun r s' => r = u ∧ Q r s') ht (by omega) (by omega) hix hj ⟨rfl, h⟩) ?_
  with_unfolding_all rfl

theorem lam_turn {f c' t : Addr} {q : Str} {params : Arguments} {body : Expr} {scope : Scope} {pm ctv z : Value} {i j : Int} {ti tj : Tok} (L : PairLam params body scope) (hd : A.depth < recursionLimit)
    (hf : s.heap.get? f = some (PySem.W.kla_obj "<lambda>" q params body scope [] pm c' ctv)) (hc : s.heap.CodeRec (.ref c') q) (lim : s.heap.NoLimit) (ht : IsTup s.heap t #[.int i ti, .int j tj, z]) :
    wpAny (model prog w) A (call (.ref f) [.ref t]) (PySem.W.KeyPure (.tuple [.int i, .int j]) s) (fun _ _ => False) s := by
  obtain ⟨p1, p2, p3, p4, p5, p6, p7, k1, k2, x1, eb⟩ := L.ex
  refine wpAny_call (codeAny_mono (R := fun r s' => ∃ v, r = .ok (.ret v) ∧ PySem.W.KeyPure (.tuple [.int i, .int j]) s v s') ?_ fun r s' hq => ?_)
  · refine PySem.W.kla_callFunE hd hf rfl L.co L.gen rfl hc ?_
    rw [L.bind]
    refine wpAny_pure (wpAny_newFunctionEnv (fun y hy => ?_) (fun y hy => ?_) (fun h₁ hns hsb => ⟨lim.fresh _ hsb, ?_⟩) L.kind)
    · rw [L.sc] at hy
      have e : y = (("row" : Str), NameKind.local) := by simpa using hy
      rw [e]
      decide
    · have e : y = (("row" : Str), Value.ref t) := by simpa using hy
      rw [e]
      show scope.names.lookup ("row" : Str) = some .local
      rw [L.sc]
      rfl
    · show codeAny _ _ (.expr body (PySem.W.envX q scope s.heap.objs.size f (.ref c') [])) _ _
      have kp : ∀ b o, s.heap.get? b = some o → h₁.get? b = some o := fun b o e => hsb.extBut b o (Nat.ne_of_lt (Heap.lt_size e)) (Heap.get?_push_of_some _ e)
      have hl : (PySem.W.envX q scope s.heap.objs.size f (.ref c') []).kindOf "row" = some .local := by
        show scope.names.lookup ("row" : Str) = some .local
        rw [L.sc]
        rfl
      refine PySem.W.kla_codeExpr ?_
      rw [eb]
      refine wpAny_Tuple_spliced ?_
      show wpAny _ _ (spliced ((false, eval _ _) :: [(false, eval _ _)])) _ _ _
      refine Calls.spliced_cons (row_at (j := 0) (u := .int i ti) L.kind hl hns rfl (ht.keeps kp) rfl rfl (by decide) ?_)
      refine Calls.spliced_cons (row_at (j := 1) (u := .int j tj) L.kind hl hns rfl (ht.keeps kp) rfl rfl (by decide) ?_)
      refine Calls.spliced_nil ⟨(by show 2 ≤ sizeLine; decide), _, rfl, _, _, rfl, fun b o e => Heap.get?_push_of_some _ (kp b o e), ?_⟩
      exact Reads.tuple (Heap.get?_push_size _ rfl) rfl rfl (ReadsAll.cons (as := []) (Reads.int i ti) (ReadsAll.cons (as := []) (Reads.int j tj) ReadsAll.nil))
  · obtain ⟨v, rfl, hk⟩ := hq
    exact hk
end
/-! ### sorted(xs, key=that lambda, reverse=True) -/
/-- a row as it lies: its score, its number, the value -/
abbrev RowV := Int × Int × V
def geV (x y : RowV) : Bool := !decide (x.1 < y.1 ∨ (x.1 = y.1 ∧ x.2.1 < y.2.1))
def rSortL (K : PySem.W.Frag) (q : Str) (params : Arguments) (body : Expr) (scope : Scope) : List V → List V → Hp → VK → Prop := fun vs zs H Q =>
  ∃ (a f c' : Addr) (bs : List RowV), vs = [.ref a] ∧ zs = [.ref f, .bl true] ∧ H f = some (LamO f c' q params body scope) ∧ H c' = some (CodeO c' q) ∧ SqL K H a (bs.map fun x => x.2.2) ∧
    (∀ x ∈ bs, ∃ (t : Addr) (y : V), x.2.2 = .ref t ∧ H t = some (.tup [.int x.1, .int x.2.1, y])) ∧
    ∀ p, H p = none → Q (.ref p) (upd H p (.lst ((bs.mergeSort geV).map fun x => x.2.2)))
/-- the key of a row -/
def keyD (x : RowV) : PyData := .tuple [.int x.1, .int x.2.1]
theorem keyD_ge : PySem.W.dataLe true keyD = geV := by
  funext x y
  rw [PySem.W.dataLe_eq]
  show (!PySem.W.dataLt (keyD x) (keyD y)) = _
  unfold keyD geV
  rw [PySem.W.dataLt_ii]
theorem keyD_depth (x : RowV) : (keyD x).depth = 1 := by simp [keyD, PyData.depth, PyData.depthAll]
theorem eachIs_of {h : Heap} {R : Value → RowV → Prop} : ∀ {bs : List RowV} {us : List Value}, Vals (bs.map fun x => x.2.2) us → (∀ x ∈ bs, ∀ u, RelV x.2.2 u → R u x) → PySem.W.EachIs R us bs
  | [], _, r, _ => by
    cases r
    exact .nil
  | x :: bs, _, r, hR => by
    cases r with
    | cons r1 r2 => exact .cons (hR x (List.mem_cons_self ..) _ r1) (eachIs_of (h := h) r2 fun y hy => hR y (List.mem_cons_of_mem _ hy))
theorem vals_each {R : Value → RowV → Prop} (hR : ∀ u x, R u x → RelV x.2.2 u) : ∀ {us : List Value} {bs : List RowV}, PySem.W.EachIs R us bs → Vals (bs.map fun x => x.2.2) us
  | _, _, .nil => .nil
  | _, _, .cons h r => .cons (hR _ _ h) (vals_each hR r)
section
variable {X : Cx}
theorem cr_sortL {k : Nat} {q : Str} {params : Arguments} {body : Expr} {scope : Scope} (L : PairLam params body scope) (hr : Room (k + 1) X.A) :
    CallRK X (.builtin "sorted") [Str.ofString "key", Str.ofString "reverse"] (rSortL X.K q params body scope) := by
  intro pins s σ H vs zs us ws Q I r rz h
  obtain ⟨a, f, c', bs, rfl, rfl, hf, hc, hs, hrow, hQ⟩ := h
  obtain rfl := Vals.ref1 r
  obtain ⟨w1, w2, rfl, e1, e2⟩ := vals2 rz
  obtain rfl : w1 = Value.ref f := e1
  obtain rfl : w2 = Value.bool true := e2
  obtain ⟨its, rv, hl, hz⟩ := I.list hs
  rw [List.length_map] at hz
  obtain ⟨⟨pm, ctv, hfo⟩, _, _⟩ := I.hok f _ hf
  obtain ⟨⟨oc, cvs, ct, hoc, hdc, hvc⟩, _, _⟩ := I.hok c' _ hc
  -- what is known of a row's value
  have each : PySem.W.EachIs (fun (u : Value) (x : RowV) => RelV x.2.2 u ∧ ∃ (t : Addr) (ti tj : Tok) (z : Value), u = .ref t ∧ IsTup s.heap t #[.int x.1 ti, .int x.2.1 tj, z]) its bs := by
    refine eachIs_of (h := s.heap) rv fun x hx u ru => ⟨ru, ?_⟩
    obtain ⟨t, y, ex, ht⟩ := hrow x hx
    rw [ex] at ru
    obtain rfl : u = Value.ref t := ru
    obtain ⟨_, tits, tv, tt⟩ := I.hok t _ ht
    cases tv with
    | cons a1 b1 =>
      cases b1 with
      | cons a2 b2 =>
        cases b2 with
        | cons a3 b3 =>
          cases b3
          obtain ⟨ti, rfl⟩ := a1
          obtain ⟨tj, rfl⟩ := a2
          exact ⟨t, ti, tj, _, rfl, tt⟩
  have lim := I.nolimit
  show wpAny _ _ (call (.builtin "sorted") [.ref a] [(Str.ofString "key", Value.ref f), (Str.ofString "reverse", Value.bool true)]) _ _ s
  refine PySem.W.sorted_key_data (b := true) keyD hl.isList each (PySem.W.AllAlike.of fun _ _ => by simp [PySem.W.alike, PySem.W.alikeAll, keyD]) (PySem.W.Sortable.tuples fun _ => ⟨_, _, rfl⟩) hz (fun x _ => ?_)
    (PyProof.Rows.ksk_s2 _ _ _) (fun _ => PyProof.Rows.ksk_l2 _ _ _) (fun _ => PyProof.Rows.ksk_t2 _ _ _) (fun v x hx _ h tk kp => ?_) fun out c h' tk kp fresh hD hlen eo => ?_
  · rw [keyD_depth]
    have := hr.un
    omega
  · obtain ⟨_, t, ti, tj, z, rfl, tt⟩ := hx
    have hd : X.A.in1.in1.depth < recursionLimit := by
      have := hr.dp
      show X.A.depth < _
      omega
    exact lam_turn (s := { s with heap := h, toks := tk }) L hd (kp _ _ hfo) ⟨c', oc, cvs, ct, rfl, kp _ _ hoc, hdc, hvc⟩ (lim.keeps kp) (tt.keeps kp)
  · rw [keyD_ge] at eo
    have vo := vals_each (fun u x hx => hx.1) eo
    have lo : ((bs.mergeSort geV).map fun x => x.2.2).length ≤ sizeLine := by
      rw [List.length_map, List.length_mergeSort]
      exact hz
    exact ⟨.ref (s.heap.objs.size + 1), _, I.laid (t' := tk) (a := s.heap.objs.size + 1) (o := .lst ((bs.mergeSort geV).map fun x => x.2.2)) kp (Nat.le_succ _) ⟨lo, out, c, vo, hD⟩, rfl, hQ _ (I.hok.fresh (Nat.le_succ _))⟩
end
end TW

/-! More rules: the least of three, every second item of a list, the end of a row with one list of whole numbers where code objects have tables. -/
namespace TW
open PySem PySem.Spec PyProof.Rows L2 LamX
open PySem.W (WData Codec OpenSpec Well WellAll ReadsW)
section
variable {X : Cx}
theorem call_min3 (hc : X.calm = true) : CallR X (.builtin "min") (fun xs H Q => ∃ i j k, xs = [.int i, .int j, .int k] ∧ Q (.int (min (min i j) k)) H) := by
  intro pins s σ H xs us Q I r h
  obtain ⟨i, j, k, rfl, q⟩ := h
  cases r with
  | cons r1 r2 =>
    cases r2 with
    | cons r2 r3 =>
      cases r3 with
      | cons r3 r4 =>
        cases r4
        obtain ⟨t, rfl⟩ := r1
        obtain ⟨u, rfl⟩ := r2
        obtain ⟨x, rfl⟩ := r3
        refine min_three_ints (I.ok.hd hc) fun h' tk kp => ⟨_, H, I.kept kp, ?_, q⟩
        by_cases h1 : j < i
        · rw [if_pos h1]
          by_cases h2 : k < j
          · rw [if_pos h2]; exact ⟨x, by rw [show min (min i j) k = k by omega]⟩
          · rw [if_neg h2]; exact ⟨u, by rw [show min (min i j) k = j by omega]⟩
        · rw [if_neg h1]
          by_cases h2 : k < i
          · rw [if_pos h2]; exact ⟨x, by rw [show min (min i j) k = k by omega]⟩
          · rw [if_neg h2]; exact ⟨t, by rw [show min (min i j) k = i by omega]⟩
end
/-! ### every second item -/
def evens {α : Type} (l : List α) : List α := (List.range ((l.length + 1) / 2)).filterMap fun k => l[2 * k]?
theorem evens_nil {α : Type} : evens ([] : List α) = [] := by simp [evens]
theorem evens_two {α : Type} (a b : α) (l : List α) : evens (a :: b :: l) = a :: evens l := by
  unfold evens
  have e : ((a :: b :: l).length + 1) / 2 = (l.length + 1) / 2 + 1 := by
    simp only [List.length_cons]
    omega
  rw [e, List.range_succ_eq_map, List.filterMap_cons, List.filterMap_map]
  show a :: _ = a :: _
  refine congrArg _ (congrArg (fun g => List.filterMap g (List.range ((l.length + 1) / 2))) (funext fun k => ?_))
  show (a :: b :: l)[2 * (k + 1)]? = l[2 * k]?
  rw [show 2 * (k + 1) = 2 * k + 1 + 1 by omega, List.getElem?_cons_succ, List.getElem?_cons_succ]
theorem evens_flat {α β : Type} (f g : α → β) : ∀ l : List α, evens (l.flatMap fun x => [f x, g x]) = l.map f
  | [] => evens_nil
  | x :: l => by
    rw [List.flatMap_cons, List.map_cons, ← evens_flat f g l]
    exact evens_two _ _ _
theorem vals_pick {xs : List V} {us : List Value} (r : Vals xs us) (f : Nat → Nat) : ∀ ks : List Nat, Vals (ks.filterMap fun k => xs[f k]?) (ks.filterMap fun k => us[f k]?)
  | [] => .nil
  | k :: ks => by
    rw [List.filterMap_cons, List.filterMap_cons]
    cases e : xs[f k]? with
    | none =>
      rw [r.none_of e]
      exact vals_pick r f ks
    | some x =>
      obtain ⟨u, eu, ru⟩ := r.get e
      rw [eu]
      exact .cons ru (vals_pick r f ks)
theorem evens_len {α : Type} (l : List α) : (evens l).length ≤ l.length := by
  unfold evens
  have h := List.length_filterMap_le (fun k => l[2 * k]?) (List.range ((l.length + 1) / 2))
  rw [List.length_range] at h
  have : (l.length + 1) / 2 ≤ l.length := by omega
  omega
theorem pick_two (its : List Value) : slicePick its.toArray none none (some 2) = (evens its).toArray := by
  unfold slicePick evens
  have hb : sliceBounds none none (some 2) its.toArray.size = (0, ((its.length : Nat) : Int), 2) := by
    unfold sliceBounds
    simp
  rw [hb]
  show ((sliceRange 0 ((its.length : Nat) : Int) 2).filterMap fun i => its.toArray[i]?).toArray = _
  have hr : sliceRange 0 ((its.length : Nat) : Int) 2 = (List.range ((its.length + 1) / 2)).map fun k => 2 * k := by
    unfold sliceRange
    have hc : (if (2 : Int) > 0 then (if (0 : Int) < (its.length : Nat) then (((its.length : Nat) : Int) - 0 + 2 - 1) / 2 else 0) else (if (0 : Int) > (its.length : Nat) then (0 - ((its.length : Nat) : Int) - 2 - 1) / (-2) else 0)).toNat = (its.length + 1) / 2 := by
      rw [if_pos (by decide)]
      split <;> omega
    simp only []
    rw [hc]
    refine List.map_congr_left fun k _ => ?_
    omega
  rw [hr, List.filterMap_map]
  refine congrArg List.toArray (congrArg (fun g => List.filterMap g (List.range ((its.length + 1) / 2))) (funext fun k => ?_))
  show its.toArray[2 * k]? = its[2 * k]?
  simp
def tEvenL (K : PySem.W.Frag) (te : TE) : TE := fun σ H Q => te σ H fun x H1 => ∃ a xs, x = .ref a ∧ SqL K H1 a xs ∧ ∀ p, H1 p = none → Q (.ref p) (upd H1 p (.lst (evens xs)))
section
variable {X : Cx}
/-- e[::2] -/
theorem pe_evenL {e : Expr} {te : TE} {k : Nat} {p1 p3 pos : Pos} (he : PE X e te) : PE X (.Subscript e (.Slice none none (some (.Constant (.int 2) k p1)) p3) pos) (tEvenL X.K te) := by
  refine ⟨fun pins s σ H Q I h => ?_⟩
  refine Subscript_ (thn (he.run pins s σ H _ I h) fun v s1 ⟨x, H1, I1, r1, a, xs, ex, hx, q⟩ => ?_)
  subst ex
  cases r1
  have hst : PO X (some (.Constant (.int 2) k p1)) (tPart (tC (.int 2))) := po_some pe_int
  refine wpAny_Slice (thn (po_none.run pins s1 σ H1 (fun o H2 => o = none ∧ H2 = H1) I1 ⟨rfl, rfl⟩) fun vl s2 ⟨l, H2, I2, pl, el, e2⟩ => ?_)
  subst el e2
  refine thn (po_none.run pins s2 σ H2 (fun o H3 => o = none ∧ H3 = H2) I2 ⟨rfl, rfl⟩) fun vu s3 ⟨u, H3, I3, pu, eu, e3⟩ => ?_
  subst eu e3
  refine thn (hst.run pins s3 σ H3 (fun o H4 => o = some 2 ∧ H4 = H3) I3 ⟨2, rfl, rfl, rfl⟩) fun vs s4 ⟨o, H4, I4, ps, eo, e4⟩ => ?_
  subst eo e4
  have I5 : Inv X pins σ H4 { s4 with heap := s4.heap.push { cls := .type "slice", data := .fields #[vl, vu, vs] } } := I4.kept (t' := s4.toks) fun b ob z => Heap.get?_push_of_some _ z
  obtain ⟨its, r, ht, hz⟩ := I5.list hx
  have hlen := r.length
  show wpAny (model X.prog X.w) X.A (subscriptTail e (.Slice none none (some (.Constant (.int 2) k p1)) p3) (.ref a) (.ref s4.heap.objs.size)) _ _ _
  refine tail_any (ops := [.ref a, .ref s4.heap.objs.size]) ht.isList.typeIs (PySem.slot_list_getitem.lookup) ?_ (by with_unfolding_all rfl)
  refine wpAny_getItem_list_slice ht.isList (Heap.IsSliceOf.new _ vl vu vs) pl pu ps (by decide) ?_ (by rw [List.size_toArray]; omega)
  rw [pick_two]
  have r' : Vals (evens xs) (evens its) := by
    unfold evens
    rw [hlen]
    exact vals_pick r (fun k => 2 * k) _
  exact ⟨.ref _, _, I5.laid (t' := s4.toks) (o := .lst (evens xs)) (fun b ob z => Heap.get?_push_of_some _ z) (Nat.le_refl _) ⟨Nat.le_trans (evens_len xs) hz, _, 0, r', Heap.get?_push_size _ rfl⟩, rfl, q _ (I5.hok.fresh (Nat.le_refl _))⟩
end
/-! ### the end of a row: one list of whole numbers; tables of code objects that may grow -/
theorem ints_of_well {P : Params} {h : Heap} : ∀ {ns : List Int} {vs : List Value}, WellAll P h vs (ns.map WData.int) → Vals (ns.map V.int) vs
  | [], _, x => by
    cases x
    exact .nil
  | n :: ns, _, x => by
    cases x with
    | cons a b =>
      cases a
      exact .cons ⟨_, rfl⟩ (ints_of_well b)
/-- the tables and the argument's list, if it is none of the written part -/
def entryH (K : PySem.W.Frag) (P a : Addr) (o : Obj) (ns : List Int) : Hp := fun b =>
  if b = P then some (.tbl #[]) else if b = a ∧ (K.lookup a).isNone = true then some (.frz o (.lst (ns.map V.int))) else none
theorem entry_call {P : Program} {w : World} {K : PySem.W.Frag} {mg mb : Str → Option Value} {CX : CXT} {k : Nat} {fa a c Pt : Addr} {fd : FuncData} {x : Str} {sp : Sp} {s₁ : Shared} {vs : List Value} {ns : List Int} {R : PySem.W.WRecords} {cl : Str → Option Addr} {d0 : WData}
    (KX : K.In s₁.heap) (hns : s₁.heap.Ns mainGlobals mg) (hb : s₁.heap.Ns builtinsNs mb) (hbb : ∀ x : Str, x ≠ "__name__" → mb x = bootBuiltins x) (hlim : s₁.heap.NoLimit) (hg : s₁.gens = #[])
    (hT : s₁.heap.get? Pt = some { cls := .none, data := .fields #[] }) (nT : K.lookup Pt = none) (C : PySem.W.CodeHd s₁.heap c Pt)
    (hbm : ∃ (bm : Addr) (ob : Obj), mg "__builtins__" = some (.ref bm) ∧ bm ≠ builtinsNs ∧ s₁.heap.get? bm = some ob ∧ ob.cls = .type "module" ∧ ob.dict = some builtinsNs ∧ ob.data = .plain)
    (ha : s₁.heap.get? a = some { cls := .type "list", data := .seq vs.toArray }) (hi : Vals (ns.map V.int) vs) (hl : ns.length ≤ sizeLine) (hr : Room k callerA)
    (F : ∀ base : Heap, K.In base → base.Ns mainGlobals mg → TabB base mg c Pt → FnOk P w K mg base CX k fa fd [x] sp) (hbind : ∀ (s : Shared) (u : Value), BindsTo s fd ⟨[u], []⟩ [(x, u)])
    (hsp : ∀ H : Hp, H Pt = some (.tbl #[]) → SqL K H a (ns.map V.int) → sp [.ref a] H (fun v H' => Dw K H' v d0) fun _ _ _ => False)
    (hCX : ∀ H e s', CX [] H s₁ (fun _ _ _ => False) e s' → False) :
    codeAny (model P w) callerA (.call (.ref fa) ⟨[.ref a], []⟩) (fun r s' => ∃ u as, r = .ok (.ret u) ∧ ReadsW R cl s'.heap u d0 as ∧ OldK s₁.heap s'.heap ∧ s'.os = s₁.os ∧ AllBare s'.gens) s₁ := by
  have aP : a ≠ Pt := fun e => by
    rw [e, hT] at ha
    have z : Data.fields #[] = Data.seq vs.toArray _ := congrArg Obj.data (Option.some.inj ha)
    cases z
  have lenV : ns.length = vs.length := by
    have := hi.length
    rw [List.length_map] at this
    exact this
  -- what is tracked
  have atP : entryH K Pt a { cls := .type "list", data := .seq vs.toArray } ns Pt = some (.tbl #[]) := if_pos rfl
  have cases3 : ∀ b u, entryH K Pt a { cls := .type "list", data := .seq vs.toArray } ns b = some u → (b = Pt ∧ u = .tbl #[]) ∨ (b = a ∧ K.lookup a = none ∧ u = .frz { cls := .type "list", data := .seq vs.toArray } (.lst (ns.map V.int))) := fun b u e => by
    unfold entryH at e
    by_cases h1 : b = Pt
    · rw [if_pos h1] at e
      exact .inl ⟨h1, (Option.some.inj e).symm⟩
    · rw [if_neg h1] at e
      by_cases h2 : b = a ∧ (K.lookup a).isNone = true
      · rw [if_pos h2] at e
        exact .inr ⟨h2.1, Option.isNone_iff_eq_none.mp h2.2, (Option.some.inj e).symm⟩
      · rw [if_neg h2] at e
        cases e
  have hS : SqL K (entryH K Pt a { cls := .type "list", data := .seq vs.toArray } ns) a (ns.map V.int) := by
    cases hk : K.lookup a with
    | none =>
      refine .inl (.inr ⟨{ cls := .type "list", data := .seq vs.toArray }, ?_⟩)
      unfold entryH
      rw [if_neg aP, if_pos ⟨rfl, by rw [hk]; rfl⟩]
    | some o =>
      have e := KX a o hk
      rw [ha] at e
      cases e
      exact .inr ⟨_, vs.toArray, _, hk, rfl, rfl, rfl, by rw [List.size_toArray, ← lenV]; exact hl, by simpa using hi⟩
  have hok : HOk P w (entryH K Pt a { cls := .type "list", data := .seq vs.toArray } ns) s₁.heap := fun b u e => by
    rcases cases3 b u e with ⟨rfl, rfl⟩ | ⟨rfl, _, rfl⟩
    · exact hT
    · exact ⟨ha, by rw [List.length_map]; exact hl, vs, _, hi, ha⟩
  have nK : ∀ b o, K.lookup b = some o → entryH K Pt a { cls := .type "list", data := .seq vs.toArray } ns b = none := fun b o e => by
    cases q : entryH K Pt a { cls := .type "list", data := .seq vs.toArray } ns b with
    | none => rfl
    | some u =>
      rcases cases3 b u q with ⟨rfl, _⟩ | ⟨rfl, hk, _⟩
      · rw [nT] at e
        cases e
      · rw [hk] at e
        cases e
  have frz : ∀ b u, entryH K Pt a { cls := .type "list", data := .seq vs.toArray } ns b = some u → b ≠ Pt → ∃ o xs, u = .frz o (.lst xs) := fun b u e nb => by
    rcases cases3 b u e with ⟨z, _⟩ | ⟨_, _, z⟩
    · exact absurd z nb
    · exact ⟨_, _, z⟩
  have free : ∀ {b : Addr} {o : Obj}, s₁.heap.get? b = some o → o ≠ { cls := .none, data := .fields #[] } → o ≠ { cls := .type "list", data := .seq vs.toArray } → entryH K Pt a { cls := .type "list", data := .seq vs.toArray } ns b = none := fun {b o} e h1 h2 => by
    cases q : entryH K Pt a { cls := .type "list", data := .seq vs.toArray } ns b with
    | none => rfl
    | some u =>
      rcases cases3 b u q with ⟨rfl, _⟩ | ⟨rfl, _⟩
      · rw [hT] at e
        exact absurd (Option.some.inj e).symm h1
      · rw [ha] at e
        exact absurd (Option.some.inj e).symm h2
  generalize entryH K Pt a { cls := .type "list", data := .seq vs.toArray } ns = H at atP cases3 hS hok nK frz free
  have bs : ∀ {b : Addr} {o : Obj}, s₁.heap.get? b = some o → H b = none → (hidT s₁.heap H).get? b = some o := fun e n => hidT_get e n
  have nsK : ∀ {b : Addr} {m : Str → Option Value}, s₁.heap.Ns b m → (hidT s₁.heap H).Ns b m := fun {b m} ⟨o, es, ep, e, d, r⟩ =>
    ⟨o, es, ep, bs e (free e (fun z => by rw [z] at d; cases d) fun z => by rw [z] at d; cases d), d, r⟩
  have hKb : K.In (hidT s₁.heap H) := fun b o e => bs (KX b o e) (nK b o e)
  have hM : L2.Mod K mg (hidT s₁.heap H) := ⟨hKb, nsK hns, ⟨mb, nsK hb, hbb⟩, let ⟨mc, h1, h2⟩ := hlim; ⟨mc, nsK h1, h2⟩⟩
  have TB : TabB (hidT s₁.heap H) mg c Pt := by
    refine ⟨?_, ?_, fun z => ?_⟩
    · obtain ⟨o, us, file, tf, flags, tg, inF, text, tt, e1, r1, r⟩ := C
      exact ⟨o, us, file, tf, flags, tg, inF, text, tt, bs e1 (free e1 (fun z => by rw [z] at r1; cases r1) fun z => by rw [z] at r1; exact absurd (Value.type.inj r1) (by decide)), r1, r⟩
    · obtain ⟨bm, ob, b1, b2, b3, b4, b5, b6⟩ := hbm
      refine ⟨bm, ob, b1, b2, fun q => ?_, fun q => ?_, bs b3 (free b3 (fun z => by rw [z] at b4; cases b4) fun z => by rw [z] at b4; exact absurd (Value.type.inj b4) (by decide)), b4, b5, b6⟩
      · obtain ⟨o, es, ep, e, d, _⟩ := hns
        rw [q, e] at b3
        cases b3
        rw [d] at b6
        cases b6
      · rw [q, hT] at b3
        cases b3
        cases b4
    · obtain ⟨o, es, ep, e, d, _⟩ := hns
      rw [z, hT] at e
      cases e
      cases d
  have e0 : Env0 P w K mg (hidT s₁.heap H) callerA [] s₁ H := ⟨rfl, hM, fun b o e => of_hidT e, Nat.le_of_eq (hidT_size _ _), trivial, fun b hb => absurd (show b ∈ ([] : List Addr) from hb) (by simp), hok, .of_eq hg⟩
  refine codeAny_mono ((F _ hKb (nsK hns) TB).run callerA [] s₁ H ⟨[.ref a], []⟩ [.ref a] [.ref a] _ _ hr e0 (hbind s₁ (.ref a)) (.cons rfl .nil) (hsp H atP hS)) fun r s' h => ?_
  cases r with
  | error e => exact (hCX H e s' h).elim
  | ok fl =>
    cases fl with
    | next => exact False.elim h
    | brk => exact False.elim h
    | cont => exact False.elim h
    | ret u =>
      obtain ⟨v, H', os, bare, un, hok', rv, q⟩ := h
      have key : ∀ b o, b ≠ Pt → s₁.heap.get? b = some o → s'.heap.get? b = some o := fun b o nb e => by
        cases z : H b with
        | none => exact un.keep b o e z (by intro y; exact absurd (show b ∈ ([] : List Addr) from y) (by simp)) (by simp)
        | some y =>
          obtain ⟨ob, xs, rfl⟩ := frz b y z nb
          have z2 := un.frzs b ob _ z
          obtain ⟨e1, _⟩ := hok b _ z
          obtain ⟨e2, _⟩ := hok' b _ z2
          rw [e] at e1
          cases e1
          exact e2
      obtain ⟨more, hm⟩ := un.tbls Pt #[] atP
      have hm' : s'.heap.get? Pt = some { cls := .none, data := .fields (#[] ++ more) } := hok' Pt _ hm
      have KX' : K.In s'.heap := fun b o e => key b o (fun z => by rw [z, nT] at e; cases e) (KX b o e)
      obtain ⟨as, hrd⟩ := Dw.reads (R := R) (cl := cl) hok' KX' d0 v u q rv
      refine ⟨u, as, rfl, hrd, ⟨fun b o e => ?_, fun b o e => ?_⟩, os, bare⟩
      · by_cases hb : b = Pt
        · rw [hb] at e ⊢
          rw [hT] at e
          cases e
          exact .inr (.inl ⟨(C.tab hT).isCodeTable, rfl, #[], more, rfl, hm'⟩)
        · exact .inl (key b o hb e)
      · by_cases hb : b = Pt
        · rw [hb]
          exact ⟨_, hm'⟩
        · exact ⟨o, key b o hb e⟩
/-- the goal that the head leaves: a row whose one argument is a list of whole numbers; one def's code object has a table -/
theorem walk_entry {r : OpenSpec} {k : Nat} {q : Program} {loose : List Str} {XP : (Str → Option Value) → Heap → Prop} {YP : World → Heap → Prop} {d : DefRec} {K : Params → PySem.W.Frag} {CX : CXT} {x : Str} {lo hi : Nat} {zl zh : Int}
    (hwell : r.wellSaid = true) (hdf : d.params.defaults = []) (hargs : r.args = [.list lo hi (.int zl zh)]) (hhi : hi ≤ sizeLine) (hr : Room k callerA)
    (hY : ∀ (w : World) (h : Heap), YP w h → (K w.params).In h)
    (F : ∀ (w : World) (mg mb : Str → Option Value) (mean : ExcName → Option Value) (ls : List Str) (fa : Addr) (h : Heap), YP w h → (K w.params).In h → h.Ns mainGlobals mg → PyProof.Rows.Top q ls mean mg mb h → mg d.name = some (.ref fa) →
      ∃ (fd : FuncData) (c Pt : Addr) (sp : Sp), h.get? Pt = some { cls := .none, data := .fields #[] } ∧ (K w.params).lookup Pt = none ∧ PySem.W.CodeHd h c Pt ∧ (∀ (s : Shared) (u : Value), BindsTo s fd ⟨[u], []⟩ [(x, u)]) ∧
        (∀ (H : Hp) (a : Addr) (ns : List Int) (av : Codec.denoteAll r.args), Codec.encAll r.args av = [.list (ns.map .int)] → Codec.withinAll r.args av = true → Codec.app r.args r.asked av = true → ns.length ≤ hi → H Pt = some (.tbl #[]) → SqL (K w.params) H a (ns.map V.int) →
          sp [.ref a] H (fun v H' => Dw (K w.params) H' v (r.ret.enc (Codec.app r.args r.f av))) fun _ _ _ => False) ∧
        ∀ base : Heap, (K w.params).In base → base.Ns mainGlobals mg → TabB base mg c Pt → FnOk r.prog w (K w.params) mg base CX k fa fd [x] sp)
    (hCX : ∀ (H : Hp) (s : Shared) (e : Value) (s' : Shared), CX [] H s (fun _ _ _ => False) e s' → False) :
    PySem.W.WalkOS q loose XP YP r d [] (fun f vs => PySem.call f vs) := by
  intro w s₀ s₁ mg mb G Y fa o pm cd doc dV kV ho hd hcd hD hmg hg args vals as hpre hlay hrd hwl hlo
  obtain ⟨av, e1, e2⟩ := PySem.W.os_pre_some hpre
  obtain ⟨e3, hwi⟩ := Codec.encAll_of_decAll r.args args av e1
  subst e3
  have KX := hY w _ Y
  obtain ⟨fd, c, Pt, sp, hT, nT, C, hb, hsp, hF⟩ := F w mg mb _ _ fa _ Y KX G.T.g G.T hmg
  -- the argument
  obtain ⟨ns, hns, hlen⟩ : ∃ ns : List Int, Codec.encAll r.args av = [.list (ns.map .int)] ∧ ns.length ≤ hi := by
    have key : ∀ (l : List Codec) (b : Codec.denoteAll l), l = [.list lo hi (.int zl zh)] → Codec.withinAll l b = true → ∃ ns : List Int, Codec.encAll l b = [.list (ns.map .int)] ∧ ns.length ≤ hi := by
      intro l b e hw
      subst e
      have q : ((Codec.inLen lo hi b.1 && b.1.all (Codec.inInt zl zh)) && true) = true := hw
      rw [Bool.and_eq_true, Bool.and_eq_true] at q
      exact ⟨b.1, rfl, (Codec.inNat_iff.mp q.1.1).2⟩
    exact key r.args av hargs hwi
  rw [hns] at hwl
  cases hwl with
  | cons wl wr =>
    cases wr
    obtain ⟨a, vs, rfl, ha, hall⟩ := well_list wl
    refine PySem.W.enter_call (codeAny_mono (entry_call (R := []) (cl := classAt s₀.heap) (d0 := r.ret.enc (Codec.app r.args r.f av)) KX G.T.g G.T.b G.T.builtins G.T.nolimit hg hT nT C G.T.bmain ha (ints_of_well hall) (Nat.le_trans hlen hhi) hr hF hb
      (fun H h1 h2 => hsp H a ns av hns hwi e2 hlen h1 h2) fun H e s' => hCX H s₁ e s') fun r' s' hq => ?_)
    obtain ⟨u, as', rfl, h1, h2, h3, h4⟩ := hq
    exact ⟨.inl ⟨u, _, as', rfl, fun _ => rfl, h1, (OpenSpec.post_iff hwell hwi _ _).mpr rfl, fun z => Bool.noConfusion (show false = true from z)⟩, h2, h3, h4⟩
end TW

/-! Words for the walk: data in the heap, defs that are known, the text's defs. -/
namespace TW
open PySem PySem.Spec PyProof.Rows L2 LamX
open Ut03 (Sent Entry Ask House)
/-! ### the text -/
def top (i : Nat) : Stmt := PySem.Challenge.pw_translations_s01_answers.main.body.getD i (.Pass ⟨0, 0, 0, 0⟩)
/-- the name x of the module holds v -/
def Is (mg : Str → Option Value) (x : Str) (v : V) : Prop := ∃ u, mg x = some u ∧ RelV v u
/-- what the top has written -/
structure Glob (mg : Str → Option Value) : Prop where
  most_words : Is mg "MOST_WORDS" (.int 20)
  most_word : Is mg "MOST_WORD" (.int 9999)
  kept : Is mg "KEPT" (.int 0)
  exchanged : Is mg "EXCHANGED" (.int 1)
  taken_out : Is mg "TAKEN_OUT" (.int 2)
  put_in : Is mg "PUT_IN" (.int 3)
  most_around : Is mg "MOST_AROUND" (.int 9999)
  most_client : Is mg "MOST_CLIENT" (.int 99)
  same : Is mg "SAME" (.int 100)
  most_unlike : Is mg "MOST_UNLIKE" (.int 99)
  other_client : Is mg "OTHER_CLIENT" (.int 3)
  most_entries : Is mg "MOST_ENTRIES" (.int 30)
  most_least : Is mg "MOST_LEAST" (.int 102)
  most_asks : Is mg "MOST_ASKS" (.int 10)
  wrong : Is mg "WRONG" (.int (-1))
  no_entry : Is mg "NO_ENTRY" (.int (-2))
  too_many : Is mg "TOO_MANY" (.int (-5))
  empty : Is mg "EMPTY" (.int (-6))
  nothing : Is mg "NOTHING" (.int (-7))
  len : mg "len" = none
  all : mg "all" = none
  range : mg "range" = none
  int : mg "int" = none
  min : mg "min" = none
  max : mg "max" = none
  list : mg "list" = none
  sorted : mg "sorted" = none
section
variable {X : Cx} {x : Str} {p pos : Pos} {e : Expr} {es : List Expr}
theorem pe_gl {v : V} (h : Is X.mg x v) (hg : Gl X x) (hd : (x == ("__debug__" : Str)) = false := by decide) : PE X (.Name x pos) (tC v) :=
  let ⟨_, h1, h2⟩ := h
  pe_glob hg h1 h2 hd
/-- a def that keeps its promise, known by its name -/
structure Dep (P : Program) (w : World) (K : PySem.W.Frag) (mg : Str → Option Value) (base : Heap) (k : Nat) (x : Str) (ps : List Str) (sp : Sp) : Prop where
  ex : ∃ (f : Addr) (fd : FuncData), FnOk P w K mg base CX0 k f fd ps sp ∧ mg x = some (.ref f) ∧ PySem.W.keepIn K (.ref f) = true ∧ Binds K fd ps []
def tDep (sp : Sp) (t : TA) : TE := fun σ H Q => t σ H fun vs H1 => sp vs H1 Q E0
theorem pe_dep {k j : Nat} {ps : List Str} {sp : Sp} {t : TA} (D : Dep X.prog X.w X.K X.mg X.base k x ps sp) (hr : Room j X.A) (hg : Gl X x) (ha : PA X (e :: es) t) (hj : k ≤ j := by decide)
    (hdb : (x == ("__debug__" : Str)) = false := by decide) (he : starEach (e :: es) X.env = (false, eval e X.env) :: starEach es X.env := by rfl) (hpl : (backTo pos (starEach es X.env)).any (·.1) = false := by rfl) :
    PE X (.Call (.Name x p) (e :: es) [] pos) (tDep sp t) := by
  obtain ⟨f, fd, F, hm, hk, hb⟩ := D.ex
  refine ⟨fun pins s σ H Q I h => ?_⟩
  refine (pe_call (dvs := []) (E := E0) F (hr.mono hj) hg hm hk hb .nil pass0 ha hdb he hpl).run pins s σ H Q I ?_
  have e0 : (fun (vs : List V) (H1 : Hp) => sp (vs ++ []) H1 Q E0) = fun vs H1 => sp vs H1 Q E0 := by
    funext vs H1
    rw [List.append_nil]
  show t σ H (fun vs H1 => sp (vs ++ []) H1 Q E0)
  rw [e0]
  exact h
theorem pe_len (G : Glob X.mg) {te : TE} (he : PE X e te) (hg : Gl X "len" := by rfl) (hs : starEach [e] X.env = (false, eval e X.env) :: starEach [] X.env := by rfl) :
    PE X (.Call (.Name "len" p) [e] [] pos) (tCB (fun xs H Q => ∃ p ys, xs = [.ref p] ∧ (SqL X.K H p ys ∨ SqT X.K H p ys) ∧ Q (.int ys.length) H) (tCons te tNil)) :=
  pe_callB call_len_seq hg G.len PySem.boot_len (pa_cons he pa_nil hs) (by decide) (by decide) hs (by rfl)
end
/-! ### data -/
abbrev nV (n : Nat) : V := .int (n : Int)
/-- a sentence, or any list of small numbers, at a -/
structure SentAt (H : Hp) (a : Addr) (s : List Nat) : Prop where
  at_ : H a = some (.lst (s.map nV))
  len : s.length ≤ 100000
theorem SentAt.ext {H H' : Hp} {a : Addr} {s : List Nat} (h : SentAt H a s) (e : ExtN H H') : SentAt H' a s := ⟨e _ _ h.at_ (fun _ z => by cases z), h.len⟩
theorem SentAt.same {H H' : Hp} {a : Addr} {s : List Nat} (h : SentAt H a s) (e : Same H H') : SentAt H' a s := ⟨e _ _ h.at_, h.len⟩
theorem SentAt.sq {K : PySem.W.Frag} {H : Hp} {a : Addr} {s : List Nat} (h : SentAt H a s) : SqL K H a (s.map nV) := SqL.of h.at_
theorem sizeBig : 100000 < sizeLine := by decide
/-- a new object leaves all that stood -/
theorem same_new {H : Hp} {p : Addr} {o : HO} (h : H p = none) : Same H (upd H p o) := fun b u e => by
  rw [upd_ne (ne_of_none e h)]
  exact e
theorem take_more {α : Type} {l : List α} {i : Nat} {x : α} (h : l[i]? = some x) : l.take (i + 1) = l.take i ++ [x] := by
  rw [List.take_add_one, h, Option.toList_some]
theorem map_at {l : List Nat} {i : Nat} {v : V} (h : (l.map nV)[i]? = some v) : ∃ n, l[i]? = some n ∧ v = nV n := by
  rw [List.getElem?_map] at h
  cases e : l[i]? with
  | none => rw [e] at h; cases h
  | some n => rw [e] at h; exact ⟨n, rfl, (Option.some.inj h).symm⟩
/-- a comprehension without a test -/
theorem yes {σ : L2.St} {H : Hp} {A B : Hp → Prop} (h : A H) : tYes σ H (fun b H3 => if b = true then A H3 else B H3) := show if true = true then A H else B H from iteT h
/-! ### are_words -/
abbrev sAre : Stmt := top 7
def spAre : Sp := fun vs H Q _ => ∃ (a : Addr) (s : List Nat), vs = [.ref a] ∧ SentAt H a s ∧ ∀ H', Same H H' → Q (.bl (Ut03.sentOk s)) H'
theorem scAre : FnScope ["numbers", "number"] ["numbers"] (defScope sAre) := ⟨rfl, rfl, rfl, by decide +kernel, rfl, by decide +kernel, by decide +kernel⟩
section
variable {P : Program} {w : World} {K : PySem.W.Frag} {mg : Str → Option Value} {base : Heap}
theorem ok_are {f : Addr} {fd : FuncData} (F : Fun K "are_words" "are_words" sAre f fd) (G : Glob mg) : FnOk P w K mg base CX0 1 f fd ["numbers"] spAre := by
  refine F.ok scAre (fun vs H Q E h => ?_) (fun cdv A outer s H vs Q E hr h => ⟨_, pss_one (ps_ret (pe_and (pe_cmpR op_le (pe_len G (pv 0)) (pe_gl G.most_words rfl) (nomark _))
      (pe_one (pe_callB (cr_all rfl) rfl G.all (by decide +kernel) (pa_cons (pe_lc (own := [("number", 1)]) (g := gName 1) rfl scAre.nd (pi_list (pv 0)) (blkOk_by (N := ["numbers", "number"]) (sc := defScope sAre) (by decide +kernel))
        (fun _ _ _ _ _ => pg_name (i := 1) scAre.nd rfl (Or.inl rfl)) (fun _ _ _ _ _ => pts_nil) (fun _ _ _ _ _ => pe_chain op_le op_le pe_int (pv 1) (pe_gl G.most_word rfl))) pa_nil))))), ?_⟩)
  · obtain ⟨a, s, rfl, _⟩ := h
    rfl
  · obtain ⟨a, ns, rfl, hs, k⟩ := h
    refine ⟨_, rfl, a, _, rfl, .inl hs.sq, _, _, rfl, rfl, _, rfl, ?_⟩
    have eL : (ns.map nV).length = ns.length := List.length_map ..
    by_cases c : ns.length ≤ 20
    · rw [decide_eq_true (show ((ns.map nV).length : Int) ≤ 20 by rw [eL]; omega)]
      refine iteT ?_
      refine ⟨_, rfl, a, rfl, ⟨_, hs.sq⟩, fun D hD => lc_list (K := K) (a := a) (xs := ns.map nV) (fun i H' => H' = upd H D (.lst ((ns.take i).map fun n => V.bl (decide (n ≤ 9999))))) rfl (fun i H' _ e => ?_) (fun i x H' hi e => ?_) (fun H' e => ?_)⟩
      · rw [e]
        exact (hs.same (same_new hD)).sq
      · obtain ⟨n, hn, rfl⟩ := map_at hi
        refine ⟨rfl, yes ⟨_, rfl, _, _, rfl, rfl, _, rfl, ?_⟩⟩
        rw [decide_eq_true (show (0 : Int) ≤ (n : Int) by omega)]
        refine iteT ⟨_, _, rfl, rfl, _, by rw [e]; exact upd_same, ?_, ?_⟩
        · rw [List.length_map, List.length_take]
          have := hs.len
          have := sizeBig
          omega
        · rw [e, upd_upd, take_more hn, List.map_append]
          refine congrArg (fun q => upd H D (.lst (_ ++ [V.bl q]))) ?_
          exact decide_eq_decide.mpr (by omega)
      · rw [List.length_map] at e
        refine ⟨D, ns.map fun n => decide (n ≤ 9999), rfl, SqL.of ?_, ?_⟩
        · rw [e, upd_same, List.take_length, List.map_map]
          rfl
        · have ek : Ut03.sentOk ns = (ns.map fun n => decide (n ≤ 9999)).all id := by
            unfold Ut03.sentOk
            rw [decide_eq_true c, Bool.true_and, List.all_map]
            rfl
          rw [← ek, e]
          exact k _ (same_new hD)
    · rw [decide_eq_false (show ¬ ((ns.map nV).length : Int) ≤ 20 by rw [eL]; omega)]
      refine iteF ?_
      have ek : Ut03.sentOk ns = false := by
        unfold Ut03.sentOk
        rw [decide_eq_false c, Bool.false_and]
      rw [← ek]
      exact k _ (Same.refl _)
end
end TW

/-! The walk: distances of sentences. -/
namespace TW
open PySem PySem.Spec PyProof.Rows L2 LamX
open Ut03 (Sent Entry Ask House)
theorem row_len (A B : Sent) (i : Nat) : (TM.row A B i).length = B.length + 1 := by
  unfold TM.row
  rw [List.length_map, List.length_range]
theorem row_get {A B : Sent} {i j : Nat} (h : j ≤ B.length) : (TM.row A B i)[j]? = some (TM.ed A B i j) := by
  unfold TM.row
  rw [List.getElem?_map, List.getElem?_range (by omega)]
  rfl
theorem nV_at {l : List Nat} {j n : Nat} (h : l[j]? = some n) : (l.map nV)[j]? = some (nV n) := by
  rw [List.getElem?_map, h]
  rfl
theorem get_in {l : List Nat} {j : Nat} (h : j < l.length) : l[j]? = some (l.getD j 0) := by
  rw [List.getD_eq_getElem?_getD, List.getElem?_eq_getElem h]
  rfl
/-! ### next_row -/
abbrev sNext : Stmt := top 8
def spNext : Sp := fun vs H Q _ => ∃ (r o : Addr) (A B : Sent) (i : Nat), vs = [.ref r, nV (A.getD i 0), .ref o] ∧ SentAt H r (TM.row A B i) ∧ SentAt H o B ∧
  ∀ H' p, Same H H' → H p = none → SentAt H' p (TM.row A B (i + 1)) → Q (.ref p) H'
theorem scNext : FnScope ["row", "word", "other", "found", "at", "both"] ["row", "word", "other"] (defScope sNext) := ⟨rfl, rfl, rfl, by decide +kernel, rfl, by decide +kernel, by decide +kernel⟩
section
variable {P : Program} {w : World} {K : PySem.W.Frag} {mg : Str → Option Value} {base : Heap}
theorem ok_next {f : Addr} {fd : FuncData} (F : Fun K "next_row" "next_row" sNext f fd) (G : Glob mg) : FnOk P w K mg base CX0 1 f fd ["row", "word", "other"] spNext := by
  refine F.ok scNext (fun vs H Q E h => ?_) (fun cdv A outer s H vs Q E hr h => ⟨_, pss_cons (ps_set (i := 3) scNext.nd rfl (Or.inl rfl) (pe_lst (pa_cons (pe_op op_add (pe_ix ix_list (pv 0) pe_int (fun _ _ => rfl)) pe_int) pa_nil)))
    (pss_cons (ps_for PassesOwn.never rfl (pi_range1 rfl G.range (pa_cons (pe_len G (pv 2)) pa_nil)) (pg_name (i := 4) scNext.nd rfl (Or.inl rfl))
      (pss_cons (ps_set (i := 5) scNext.nd rfl (Or.inl rfl) (pe_op op_add (pe_ix ix_list (pv 0) (pv 4) (fun _ _ => rfl)) (pe_callTy call_int1 rfl G.int (by decide +kernel) (pa_cons (pe_cmpR op_ne (pv 1) (pe_ix ix_list (pv 2) (pv 4) (fun _ _ => rfl)) (nomark _)) pa_nil))))
      (pss_one (ps_expr (pe_bm PySem.F.plainAttrs_list PySem.F.slot_list_append PySem.F.type_list_append mt_append (pv 3)
        (pa_cons (pe_callB (call_min3 rfl) rfl G.min (by decide +kernel) (pa_cons (pv 5) (pa_cons (pe_op op_add (pe_ix ix_list (pv 0) (pe_op op_add (pv 4) pe_int) (fun _ _ => rfl)) pe_int) (pa_cons (pe_op op_add (pe_ix ix_list (pv 3) (pv 4) (fun _ _ => rfl)) pe_int) pa_nil)))) pa_nil))))))
    (pss_one (ps_ret (pv 3)))), ?_⟩)
  · obtain ⟨_, _, _, _, _, rfl, _⟩ := h
    rfl
  · obtain ⟨r, o, X, Y, i, rfl, hR, hO, k⟩ := h
    have lO := hO.len
    have big := sizeBig
    refine ⟨_, rfl, r, _, _, nV (TM.ed X Y i 0), rfl, rfl, hR.sq, at_of (j := 0) rfl (nV_at (row_get (Nat.zero_le _))), _, _, rfl, rfl, (by show 1 ≤ sizeLine; decide), fun p hp => ?_⟩
    have nr : r ≠ p := ne_of_none hR.at_ hp
    have no : o ≠ p := ne_of_none hO.at_ hp
    have eN : (((Y.map nV).length : Nat) : Int).toNat = Y.length := by rw [List.length_map]; omega
    have lY : ((Y.map nV).length : Int) ≤ 100000 := by rw [List.length_map]; omega
    have toks : ∀ u, Same H (upd H p u) := fun u => same_new hp
    refine ⟨_, rfl, o, _, rfl, .inl (hO.same (toks _)).sq, _, rfl, by omega, by omega, ?_⟩
    rw [eN]
    refine for_range (lo := 0) (n := Y.length) (fun k σ' H' => ∃ v4 v5 : Option V, σ' = [some (.ref r), some (nV (X.getD i 0)), some (.ref o), some (.ref p), v4, v5] ∧ H' = upd H p (.lst (((List.range (k + 1)).map (TM.ed X Y (i + 1))).map nV)))
      ⟨none, none, rfl, ?_⟩ ?_ ?_
    · rw [TM.ed_nil]
      refine congrArg (fun z => upd H p (.lst z)) ?_
      show [V.int ((i : Int) + 1)] = [nV (TM.ed X Y (i + 1) 0)]
      rw [TM.ed_nil]
      rfl
    · rintro j σ' H' hj ⟨v4, v5, rfl, rfl⟩
      have sR := (hR.same (toks (.lst (((List.range (j + 1)).map (TM.ed X Y (i + 1))).map nV)))).sq (K := K)
      have sO := (hO.same (toks (.lst (((List.range (j + 1)).map (TM.ed X Y (i + 1))).map nV)))).sq (K := K)
      have ezj : (0 : Int) + (j : Nat) = ((j : Nat) : Int) := by omega
      have a1 : atI ((TM.row X Y i).map nV) (0 + (j : Nat)) = some (nV (TM.ed X Y i j)) := at_of ezj (nV_at (row_get (by omega)))
      have a2 : atI (Y.map nV) (0 + (j : Nat)) = some (nV (Y.getD j 0)) := at_of ezj (nV_at (get_in hj))
      have a3 : atI ((TM.row X Y i).map nV) (0 + (j : Nat) + 1) = some (nV (TM.ed X Y i (j + 1))) := at_of (j := j + 1) (by omega) (nV_at (row_get (by omega)))
      have a4 : atI (((List.range (j + 1)).map (TM.ed X Y (i + 1))).map nV) (0 + (j : Nat)) = some (nV (TM.ed X Y (i + 1) j)) := at_of ezj (nV_at (by rw [List.getElem?_map, List.getElem?_range (by omega)]; rfl))
      refine ⟨_, rfl, _, rfl, r, _, _, _, rfl, rfl, sR, a1, _, rfl, _, rfl, _, rfl, o, _, _, _, rfl, rfl, sO, a2, rfl, .inr ⟨_, rfl, _, _, rfl, rfl, ?_⟩⟩
      refine ⟨_, rfl, .inl ⟨rfl, _, SqL.of upd_same⟩, _, rfl, _, rfl, _, rfl, _, _, rfl, rfl, r, _, _, _, rfl, rfl, sR, a3, _, _, rfl, rfl, _, rfl, _, rfl, p, _, _, _, rfl, rfl, SqL.of upd_same, a4, _, _, rfl, rfl, _, _, _, rfl, p, _, _, rfl, rfl, upd_same, ?_, ?_⟩
      · rw [List.length_map, List.length_map, List.length_range]
        omega
      · refine ⟨_, _, rfl, ?_⟩
        rw [upd_upd, List.range_succ (n := j + 1), List.map_append, List.map_append]
        refine congrArg (fun z => upd H p (.lst (_ ++ [V.int z]))) ?_
        rw [TM.ed_succ]
        by_cases hw : X.getD i 0 = Y.getD j 0
        · have hd : (!decide (nV (X.getD i 0) = nV (Y.getD j 0))) = false := by rw [hw]; simp
          rw [hd, if_pos hw, if_neg (by decide)]
          omega
        · have hd : (!decide (nV (X.getD i 0) = nV (Y.getD j 0))) = true := by
            rw [Bool.not_eq_true', decide_eq_false_iff_not]
            intro z
            exact hw (Int.ofNat.inj (V.int.inj z))
          rw [hd, if_neg hw, if_pos rfl]
          omega
    · rintro σ' H' ⟨v4, v5, rfl, rfl⟩
      refine ⟨_, rfl, k _ p (toks _) hp ⟨upd_same, ?_⟩⟩
      rw [row_len]
      have h := hR.len
      rw [row_len] at h
      exact h
end
end TW

/-! The walk: the table, the distance, the way, how near. -/
namespace TW
open PySem PySem.Spec PyProof.Rows L2 LamX
open Ut03 (Sent Entry Ask House)
/-- the table of distances, row by row, so many rows -/
structure TabAt (H : Hp) (p : Addr) (A B : Sent) (n : Nat) : Prop where
  ex : ∃ xs : List V, H p = some (.lst xs) ∧ xs.length = n ∧ ∀ i, i < n → ∃ r, xs[i]? = some (.ref r) ∧ SentAt H r (TM.row A B i)
theorem TabAt.same {H H' : Hp} {p : Addr} {A B : Sent} {n : Nat} (h : TabAt H p A B n) (e : Same H H') : TabAt H' p A B n :=
  let ⟨xs, h1, h2, h3⟩ := h.ex
  ⟨xs, e _ _ h1, h2, fun i hi => let ⟨r, a, b⟩ := h3 i hi; ⟨r, a, b.same e⟩⟩
/-! ### distances -/
abbrev sDists : Stmt := top 9
def spDists : Sp := fun vs H Q _ => ∃ (a o : Addr) (A B : Sent), vs = [.ref a, .ref o] ∧ SentAt H a A ∧ SentAt H o B ∧ B.length ≤ 1000 ∧
  ∀ H' p, Same H H' → H p = none → TabAt H' p A B (A.length + 1) → Q (.ref p) H'
theorem scDists : FnScope ["one", "other", "rows", "word"] ["one", "other"] (defScope sDists) := ⟨rfl, rfl, rfl, by decide +kernel, rfl, by decide +kernel, by decide +kernel⟩
theorem atI_end {xs : List V} {v : V} (h : xs.getLast? = some v) : atI xs (-1) = some v := by
  obtain ⟨ys, rfl⟩ := List.getLast?_eq_some_iff.mp h
  exact atI_last ys v
section
variable {P : Program} {w : World} {K : PySem.W.Frag} {mg : Str → Option Value} {base : Heap}
theorem ok_dists {f : Addr} {fd : FuncData} (F : Fun K "distances" "distances" sDists f fd) (G : Glob mg) (DN : Dep P w K mg base 1 "next_row" ["row", "word", "other"] spNext) :
    FnOk P w K mg base CX0 2 f fd ["one", "other"] spDists := by
  refine F.ok scDists (fun vs H Q E h => ?_) (fun cdv A outer s H vs Q E hr h => ⟨_, pss_cons (ps_set (i := 2) scDists.nd rfl (Or.inl rfl) (pe_lst (pa_cons (pe_listRg rfl rfl G.list (prg_1 rfl G.range (pe_op op_add (pe_len G (pv 1)) pe_int))) pa_nil)))
    (pss_cons (ps_for PassesOwn.never rfl (pi_list (pv 0)) (pg_name (i := 3) scDists.nd rfl (Or.inl rfl))
      (pss_one (ps_expr (pe_bm PySem.F.plainAttrs_list PySem.F.slot_list_append PySem.F.type_list_append mt_append (pv 2)
        (pa_cons (pe_dep DN hr rfl (pa_cons (pe_ix ix_list (pv 2) (pe_un un_neg pe_int) (fun _ _ => rfl)) (pa_cons (pv 3) (pa_cons (pv 1) pa_nil)))) pa_nil)))))
    (pss_one (ps_ret (pv 2)))), ?_⟩)
  · obtain ⟨_, _, _, _, rfl, _⟩ := h
    rfl
  · obtain ⟨a, o, X, Y, rfl, hA, hB, lB, k⟩ := h
    have lA := hA.len
    have big := sizeBig
    have eL : (Y.map nV).length = Y.length := List.length_map ..
    refine ⟨_, rfl, o, _, rfl, .inl hB.sq, _, _, rfl, rfl, _, rfl, RgOk.of_le (by omega) (by rw [eL]; omega) (by omega) (by omega), fun q hq => ⟨(by show 1 ≤ sizeLine; decide), fun p hp => ?_⟩⟩
    have sq : Same H (upd H q (.lst (rgV 0 ((Y.map nV).length + 1)))) := same_new hq
    have sp := sq.trans (same_new (o := HO.lst [V.ref q]) hp)
    have hp0 : H p = none := sq.free hp
    have nqp : q ≠ p := ne_of_none upd_same hp
    have hrow0 : SentAt (upd (upd H q (.lst (rgV 0 ((Y.map nV).length + 1)))) p (.lst [V.ref q])) q (TM.row X Y 0) := by
      refine ⟨?_, ?_⟩
      · rw [upd_ne nqp, upd_same, TM.row_zero]
        refine congrArg (fun z => some (HO.lst z)) ?_
        unfold rgV
        rw [eL, show ((Y.length : Int) + 1 - 0).toNat = Y.length + 1 by omega]
        refine List.map_congr_left fun i _ => ?_
        show V.int (0 + (i : Nat)) = nV i
        rw [Int.zero_add]
      · rw [row_len]; omega
    refine ⟨_, rfl, a, rfl, ⟨_, (hA.same sp).sq⟩, for_list (K := K) (a := a) (xs := X.map nV) (fun k σ' H' => ∃ v3 : Option V, σ' = [some (.ref a), some (.ref o), some (.ref p), v3] ∧ (∀ b u, H b = some u → b ≠ p → H' b = some u) ∧
        ∃ xs : List V, H' p = some (.lst xs) ∧ xs.length = k + 1 ∧ (∀ i, i < k + 1 → ∃ r, xs[i]? = some (.ref r) ∧ r ≠ p ∧ SentAt H' r (TM.row X Y i)))
      ⟨none, rfl, fun b u e nb => sp b u e, [V.ref q], upd_same, rfl, fun i hi => (by
        obtain rfl : i = 0 := by omega
        exact ⟨q, rfl, nqp, hrow0⟩)⟩ (fun k σ' H' _ ⟨_, _, e, _⟩ => SqL.of (e _ _ hA.at_ (ne_of_none hA.at_ hp0))) ?_ ?_⟩
    · rintro j x σ' H' hx ⟨v3, rfl, keep, xs, hxs, lxs, rows⟩
      obtain ⟨n, hn, rfl⟩ := map_at hx
      have hj : j < X.length := (List.getElem?_eq_some_iff.mp hn).1
      have en : n = X.getD j 0 := by
        rw [List.getD_eq_getElem?_getD, hn]
        rfl
      obtain ⟨r, er, nr, hr0⟩ := rows j (by omega)
      have hlast : xs.getLast? = some (.ref r) := by
        rw [List.getLast?_eq_getElem?, lxs]
        exact er
      refine ⟨_, rfl, .inl ⟨rfl, _, SqL.of hxs⟩, _, rfl, _, rfl, p, _, _, _, rfl, rfl, SqL.of hxs, atI_end hlast, _, rfl, _, rfl, ?_⟩
      refine ⟨r, o, X, Y, j, by rw [en], hr0, ⟨keep _ _ hB.at_ (ne_of_none hB.at_ hp0), hB.len⟩, fun H2 p2 s2 f2 hS => ?_⟩
      have np : p2 ≠ p := fun z => by rw [z, hxs] at f2; cases f2
      refine ⟨p, xs, _, rfl, rfl, s2 _ _ hxs, by omega, ?_⟩
      have keep2 : ∀ b u, b ≠ p → H2 b = some u → upd H2 p (.lst (xs ++ [V.ref p2])) b = some u := fun b u nb e => by rw [upd_ne nb]; exact e
      refine ⟨_, rfl, fun b u e nb => keep2 b u nb (s2 _ _ (keep b u e nb)), xs ++ [.ref p2], upd_same, by rw [List.length_append, lxs]; rfl, fun i hi => ?_⟩
      by_cases hi2 : i < j + 1
      · obtain ⟨r', e1, e2, e3⟩ := rows i hi2
        refine ⟨r', ?_, e2, keep2 _ _ e2 (s2 _ _ e3.at_), e3.len⟩
        rw [List.getElem?_append_left (by omega)]
        exact e1
      · have hi3 : i = j + 1 := by omega
        subst hi3
        refine ⟨p2, ?_, np, keep2 _ _ np hS.at_, hS.len⟩
        rw [List.getElem?_append_right (by omega), lxs, Nat.sub_self]
        rfl
    · rintro σ' H' ⟨v3, rfl, keep, xs, hxs, lxs, rows⟩
      rw [List.length_map] at lxs rows
      exact ⟨_, rfl, k H' p (fun b u e => keep b u e (ne_of_none e hp0)) hp0 ⟨xs, hxs, lxs, fun i hi => let ⟨r, e1, _, e3⟩ := rows i hi; ⟨r, e1, e3⟩⟩⟩
end
/-! ### distance -/
abbrev sDist : Stmt := top 10
def spDist : Sp := fun vs H Q _ => ∃ (a o : Addr) (A B : Sent), vs = [.ref a, .ref o] ∧ SentAt H a A ∧ SentAt H o B ∧ B.length ≤ 1000 ∧ ∀ H', Same H H' → Q (nV (Ut03.distance A B)) H'
theorem scDist : FnScope ["one", "other"] ["one", "other"] (defScope sDist) := ⟨rfl, rfl, rfl, by decide +kernel, rfl, by decide +kernel, by decide +kernel⟩
section
variable {P : Program} {w : World} {K : PySem.W.Frag} {mg : Str → Option Value} {base : Heap}
theorem ok_dist {f : Addr} {fd : FuncData} (F : Fun K "distance" "distance" sDist f fd) (G : Glob mg) (DD : Dep P w K mg base 2 "distances" ["one", "other"] spDists) :
    FnOk P w K mg base CX0 3 f fd ["one", "other"] spDist := by
  refine F.ok scDist (fun vs H Q E h => ?_) (fun cdv A outer s H vs Q E hr h => ⟨_, pss_one (ps_ret (pe_ix ix_list (pe_ix ix_list (pe_dep DD hr rfl (pa_cons (pv 0) (pa_cons (pv 1) pa_nil))) (pe_len G (pv 0)) (fun _ _ => rfl)) (pe_len G (pv 1)) (fun _ _ => rfl))), ?_⟩)
  · obtain ⟨_, _, _, _, rfl, _⟩ := h
    rfl
  · obtain ⟨a, o, X, Y, rfl, hA, hB, lB, k⟩ := h
    refine ⟨_, rfl, _, rfl, a, o, X, Y, rfl, hA, hB, lB, fun H' p s1 _ hT => ?_⟩
    obtain ⟨xs, h1, h2, h3⟩ := hT.ex
    obtain ⟨r, e1, e2⟩ := h3 X.length (by omega)
    have lX : (X.map nV).length = X.length := List.length_map ..
    have lY : (Y.map nV).length = Y.length := List.length_map ..
    refine ⟨_, rfl, a, _, rfl, .inl (hA.same s1).sq, p, _, _, _, rfl, rfl, SqL.of h1, at_of (by rw [lX]) e1, _, rfl, o, _, rfl, .inl (hB.same s1).sq, r, _, _, nV (TM.ed X Y X.length Y.length), rfl, rfl, e2.sq, at_of (by rw [lY]) (nV_at (row_get (Nat.le_refl _))), ?_⟩
    rw [← TM.distance_is]
    exact k _ s1
end
/-! ### last_step -/
abbrev sLast : Stmt := top 11
def spLast : Sp := fun vs H Q _ => ∃ (t a o : Addr) (A B : Sent) (i j : Nat), vs = [.ref t, .ref a, .ref o, nV i, nV j] ∧ TabAt H t A B (A.length + 1) ∧ SentAt H a A ∧ SentAt H o B ∧ i ≤ A.length ∧ j ≤ B.length ∧ Q (nV (TM.lstep A B i j)) H
theorem scLast : FnScope ["rows", "one", "other", "left", "right", "here"] ["rows", "one", "other", "left", "right"] (defScope sLast) := ⟨rfl, rfl, rfl, by decide +kernel, rfl, by decide +kernel, by decide +kernel⟩
section
variable {P : Program} {w : World} {K : PySem.W.Frag} {mg : Str → Option Value} {base : Heap}
theorem TabAt.cell {H : Hp} {t : Addr} {A B : Sent} {n i j : Nat} (h : TabAt H t A B n) (hi : i < n) (hj : j ≤ B.length) : ∃ (xs : List V) (r : Addr), H t = some (.lst xs) ∧ xs[i]? = some (.ref r) ∧ H r = some (.lst ((TM.row A B i).map nV)) ∧ ((TM.row A B i).map nV)[j]? = some (nV (TM.ed A B i j)) :=
  let ⟨xs, h1, h2, h3⟩ := h.ex
  let ⟨r, e1, e2⟩ := h3 i hi
  ⟨xs, r, h1, e1, e2.at_, nV_at (row_get hj)⟩
/-- the reading of rows[i][j] -/
theorem cell_rd {H : Hp} {t : Addr} {A B : Sent} {n i j : Nat} {zi zj : Int} {Q : VK} (h : TabAt H t A B n) (hi : i < n) (hj : j ≤ B.length) (ei : zi = (i : Int)) (ej : zj = (j : Int)) (q : Q (nV (TM.ed A B i j)) H) :
    rIxL K (.ref t) (.int zi) H fun x H1 => rIxL K x (.int zj) H1 Q := by
  obtain ⟨xs, r, h1, h2, h3, h4⟩ := h.cell hi hj
  exact ⟨t, _, _, _, rfl, rfl, SqL.of h1, at_of ei h2, r, _, _, _, rfl, rfl, SqL.of h3, at_of ej h4, q⟩
theorem ok_last {f : Addr} {fd : FuncData} (F : Fun K "last_step" "last_step" sLast f fd) (G : Glob mg) : FnOk P w K mg base CX0 1 f fd ["rows", "one", "other", "left", "right"] spLast := by
  refine F.ok scLast (fun vs H Q E h => ?_) (fun cdv A outer s H vs Q E hr h => ⟨_, pss_cons (ps_set (i := 5) scLast.nd rfl (Or.inl rfl) (pe_ix ix_list (pe_ix ix_list (pv 0) (pv 3) (fun _ _ => rfl)) (pv 4) (fun _ _ => rfl)))
    (pss_cons (ps_if (PW.pt (pw_and (pt_cmpR op_gt (pv 3) pe_int (nomark _)) (pw_and1 (pt_cmpR op_gt (pv 4) pe_int (nomark _)))))
      (pss_cons (ps_if (PW.pt (pw_and (pt_cmpR op_eq (pe_ix ix_list (pv 1) (pe_op op_sub (pv 3) pe_int) (fun _ _ => rfl)) (pe_ix ix_list (pv 2) (pe_op op_sub (pv 4) pe_int) (fun _ _ => rfl)) (nomark _))
          (pw_and1 (pt_cmpR op_eq (pe_ix ix_list (pe_ix ix_list (pv 0) (pe_op op_sub (pv 3) pe_int) (fun _ _ => rfl)) (pe_op op_sub (pv 4) pe_int) (fun _ _ => rfl)) (pv 5) (nomark _)))))
          (pss_one (ps_ret (pe_gl G.kept rfl))) pss_nil)
      (pss_one (ps_if (pt_cmpR op_eq (pe_ix ix_list (pe_ix ix_list (pv 0) (pe_op op_sub (pv 3) pe_int) (fun _ _ => rfl)) (pe_op op_sub (pv 4) pe_int) (fun _ _ => rfl)) (pe_op op_sub (pv 5) pe_int) (nomark _))
          (pss_one (ps_ret (pe_gl G.exchanged rfl))) pss_nil))) pss_nil)
    (pss_cons (ps_if (PW.pt (pw_and (pt_cmpR op_gt (pv 3) pe_int (nomark _)) (pw_and1 (pt_cmpR op_eq (pe_ix ix_list (pe_ix ix_list (pv 0) (pe_op op_sub (pv 3) pe_int) (fun _ _ => rfl)) (pv 4) (fun _ _ => rfl)) (pe_op op_sub (pv 5) pe_int) (nomark _)))))
      (pss_one (ps_ret (pe_gl G.taken_out rfl))) pss_nil)
    (pss_one (ps_ret (pe_gl G.put_in rfl))))), ?_⟩)
  · obtain ⟨_, _, _, _, _, _, _, rfl, _⟩ := h
    rfl
  · obtain ⟨t, a, o, X, Y, i, j, rfl, hT, hA, hB, hi, hj, k⟩ := h
    obtain ⟨xs, r, h1, h2, h3, h4⟩ := hT.cell (i := i) (j := j) (by omega) hj
    refine ⟨_, rfl, _, rfl, t, _, _, _, rfl, rfl, SqL.of h1, at_of rfl h2, _, rfl, r, _, _, _, rfl, rfl, SqL.of h3, at_of rfl h4, ?_⟩
    -- what stands behind the first if
    have tail : ∀ σ' : L2.St, σ' = [some (.ref t), some (.ref a), some (.ref o), some (nV i), some (nV j), some (nV (TM.ed X Y i j))] → (¬ (0 < i ∧ 0 < j ∧ X.getD (i - 1) 0 = Y.getD (j - 1) 0 ∧ TM.ed X Y i j = TM.ed X Y (i - 1) (j - 1))) →
        (¬ (0 < i ∧ 0 < j ∧ TM.ed X Y i j = TM.ed X Y (i - 1) (j - 1) + 1)) →
        tSeq (tIfS (tAnd (tTest (tOp (rI0 fun i j => .bl (decide (j < i))) (tVar 3) (tC (.int 0)))) (tTest (tOp rEq (tOp (rIxL K) (tOp (rIxL K) (tVar 0) (tOp (rI0 fun i j => .int (i - j)) (tVar 3) (tC (.int 1)))) (tVar 4)) (tOp (rI0 fun i j => .int (i - j)) (tVar 5) (tC (.int 1))))))
          (tRet (tC (.int 2))) tNext) (tRet (tC (.int 3))) { nx := fun _ H' => Q .non H', rt := Q } σ' H := by
      rintro σ' rfl n1 n2
      have e3 : TM.lstep X Y i j = if 0 < i ∧ TM.ed X Y i j = TM.ed X Y (i - 1) j + 1 then 2 else 3 := by
        unfold TM.lstep
        rw [if_neg n1, if_neg n2]
      rw [e3] at k
      refine ⟨_, rfl, _, _, rfl, rfl, _, rfl, ?_⟩
      by_cases c : 0 < i
      · rw [decide_eq_true (show (0 : Int) < (i : Int) by omega)]
        refine iteT ?_
        obtain ⟨ys, r2, g1, g2, g3, g4⟩ := hT.cell (i := i - 1) (j := j) (by omega) hj
        refine ⟨_, rfl, _, rfl, _, _, rfl, rfl, t, _, _, _, rfl, rfl, SqL.of g1, at_of (j := i - 1) (by omega) g2, _, rfl, r2, _, _, _, rfl, rfl, SqL.of g3, at_of rfl g4, _, rfl, _, _, rfl, rfl, rfl, _, rfl, ?_⟩
        by_cases c2 : TM.ed X Y i j = TM.ed X Y (i - 1) j + 1
        · rw [if_pos ⟨c, c2⟩] at k
          rw [decide_eq_true (show nV (TM.ed X Y (i - 1) j) = V.int ((TM.ed X Y i j : Int) - 1) from congrArg V.int (by omega))]
          exact iteT k
        · rw [if_neg fun z => c2 z.2] at k
          rw [decide_eq_false (show ¬ nV (TM.ed X Y (i - 1) j) = V.int ((TM.ed X Y i j : Int) - 1) from fun z => c2 (by have := V.int.inj z; omega))]
          exact iteF k
      · rw [if_neg fun z => c z.1] at k
        rw [decide_eq_false (show ¬ (0 : Int) < (i : Int) by omega)]
        exact iteF (iteF k)
    refine ⟨_, rfl, _, _, rfl, rfl, _, rfl, ?_⟩
    by_cases ci : 0 < i
    · rw [decide_eq_true (show (0 : Int) < (i : Int) by omega)]
      refine iteT ⟨_, rfl, _, _, rfl, rfl, _, rfl, ?_⟩
      by_cases cj : 0 < j
      · rw [decide_eq_true (show (0 : Int) < (j : Int) by omega)]
        refine iteT ?_
        obtain ⟨ys, r2, g1, g2, g3, g4⟩ := hT.cell (i := i - 1) (j := j - 1) (by omega) (by omega)
        have ax : (X.map nV)[i - 1]? = some (nV (X.getD (i - 1) 0)) := nV_at (get_in (by omega))
        have ay : (Y.map nV)[j - 1]? = some (nV (Y.getD (j - 1) 0)) := nV_at (get_in (by omega))
        have zi : (i : Int) - 1 = ((i - 1 : Nat) : Int) := by omega
        have zj : (j : Int) - 1 = ((j - 1 : Nat) : Int) := by omega
        refine ⟨_, rfl, _, rfl, _, _, rfl, rfl, a, _, _, _, rfl, rfl, hA.sq, at_of zi ax, _, rfl, _, rfl, _, _, rfl, rfl, o, _, _, _, rfl, rfl, hB.sq, at_of zj ay, rfl, _, rfl, ?_⟩
        -- the second of the two tests, where the first is false or this one is
        have second : ∀ D : L2.Ends, D.rt = Q → (D.nx = fun σ' H' => tSeq (tIfS (tAnd (tTest (tOp (rI0 fun i j => .bl (decide (j < i))) (tVar 3) (tC (.int 0)))) (tTest (tOp rEq (tOp (rIxL K) (tOp (rIxL K) (tVar 0) (tOp (rI0 fun i j => .int (i - j)) (tVar 3) (tC (.int 1)))) (tVar 4)) (tOp (rI0 fun i j => .int (i - j)) (tVar 5) (tC (.int 1))))))
              (tRet (tC (.int 2))) tNext) (tRet (tC (.int 3))) { nx := fun _ H' => Q .non H', rt := Q } σ' H') →
            (¬ (0 < i ∧ 0 < j ∧ X.getD (i - 1) 0 = Y.getD (j - 1) 0 ∧ TM.ed X Y i j = TM.ed X Y (i - 1) (j - 1))) →
            tIfS (tTest (tOp rEq (tOp (rIxL K) (tOp (rIxL K) (tVar 0) (tOp (rI0 fun i j => .int (i - j)) (tVar 3) (tC (.int 1)))) (tOp (rI0 fun i j => .int (i - j)) (tVar 4) (tC (.int 1)))) (tOp (rI0 fun i j => .int (i - j)) (tVar 5) (tC (.int 1)))))
              (tRet (tC (.int 1))) tNext D [some (.ref t), some (.ref a), some (.ref o), some (nV i), some (nV j), some (nV (TM.ed X Y i j))] H := by
          intro D e1 e2 n1
          refine ⟨_, rfl, _, rfl, _, _, rfl, rfl, t, _, _, _, rfl, rfl, SqL.of g1, at_of zi g2, _, rfl, _, _, rfl, rfl, r2, _, _, _, rfl, rfl, SqL.of g3, at_of zj g4, _, rfl, _, _, rfl, rfl, rfl, _, rfl, ?_⟩
          by_cases c2 : TM.ed X Y i j = TM.ed X Y (i - 1) (j - 1) + 1
          · rw [decide_eq_true (show nV (TM.ed X Y (i - 1) (j - 1)) = V.int ((TM.ed X Y i j : Int) - 1) from congrArg V.int (by omega))]
            refine iteT ?_
            show D.rt (.int 1) H
            have e3 : TM.lstep X Y i j = 1 := by
              unfold TM.lstep
              rw [if_neg n1, if_pos ⟨ci, cj, c2⟩]
            rw [e1]
            rw [e3] at k
            exact k
          · rw [decide_eq_false (show ¬ nV (TM.ed X Y (i - 1) (j - 1)) = V.int ((TM.ed X Y i j : Int) - 1) from fun z => c2 (by have := V.int.inj z; omega))]
            refine iteF ?_
            show D.nx _ H
            rw [e2]
            exact tail _ rfl n1 fun z => c2 z.2.2
        by_cases c1 : X.getD (i - 1) 0 = Y.getD (j - 1) 0
        · rw [decide_eq_true (show nV (X.getD (i - 1) 0) = nV (Y.getD (j - 1) 0) by rw [c1])]
          refine iteT ⟨_, rfl, _, rfl, _, _, rfl, rfl, t, _, _, _, rfl, rfl, SqL.of g1, at_of zi g2, _, rfl, _, _, rfl, rfl, r2, _, _, _, rfl, rfl, SqL.of g3, at_of zj g4, _, rfl, rfl, _, rfl, ?_⟩
          by_cases c2 : TM.ed X Y i j = TM.ed X Y (i - 1) (j - 1)
          · rw [decide_eq_true (show nV (TM.ed X Y (i - 1) (j - 1)) = nV (TM.ed X Y i j) by rw [c2])]
            refine iteT ?_
            have e3 : TM.lstep X Y i j = 0 := by
              unfold TM.lstep
              rw [if_pos ⟨ci, cj, c1, c2⟩]
            rw [e3] at k
            exact k
          · rw [decide_eq_false (show ¬ nV (TM.ed X Y (i - 1) (j - 1)) = nV (TM.ed X Y i j) from fun z => c2 (by have := V.int.inj z; omega))]
            exact iteF (second _ rfl rfl fun z => c2 z.2.2.2)
        · rw [decide_eq_false (show ¬ nV (X.getD (i - 1) 0) = nV (Y.getD (j - 1) 0) from fun z => c1 (by have := V.int.inj z; omega))]
          exact iteF (iteF (second _ rfl rfl fun z => c1 z.2.2.1))
      · rw [decide_eq_false (show ¬ (0 : Int) < (j : Int) by omega)]
        exact iteF (tail _ rfl (fun z => cj z.2.1) fun z => cj z.2.1)
    · rw [decide_eq_false (show ¬ (0 : Int) < (i : Int) by omega)]
      exact iteF (iteF (tail _ rfl (fun z => ci z.1) fun z => ci z.1))
end
end TW

/-! Data as it is compared; asks and entries in the heap. -/
namespace TW
open PySem PySem.Spec PyProof.Rows L2 LamX
open Ut03 (Sent Ask House)
abbrev Ent := Ut03.Entry
/-- data that may be compared: without dicts, not deep -/
structure Nice (n : Nat) (d : PyData) : Prop where
  lay : d.canLay0 = true
  deep : d.depth ≤ n
theorem nice_int (i : Int) (n : Nat) : Nice n (.int i) := ⟨by simp only [PyData.canLay0], by simp only [PyData.depth]; omega⟩
theorem Nice.mono {n m : Nat} {d : PyData} (h : Nice n d) (e : n ≤ m) : Nice m d := ⟨h.lay, Nat.le_trans h.deep e⟩
theorem nice_all {n : Nat} : ∀ {ds : List PyData}, (∀ d ∈ ds, Nice n d) → PyData.canLayAll0 ds = true ∧ PyData.depthAll ds ≤ n
  | [], _ => ⟨by simp only [PyData.canLayAll0], by simp only [PyData.depthAll]; omega⟩
  | d :: ds, h => by
    have h1 := h d (List.mem_cons_self ..)
    have h2 := nice_all (ds := ds) fun e he => h e (List.mem_cons_of_mem _ he)
    refine ⟨?_, ?_⟩
    · simp only [PyData.canLayAll0, h1.lay, h2.1, Bool.and_self]
    · have a := h1.deep
      have b := h2.2
      simp only [PyData.depthAll]
      omega
theorem nice_list {n : Nat} {ds : List PyData} (h : ∀ d ∈ ds, Nice n d) : Nice (n + 1) (.list ds) := by
  have := nice_all h
  exact ⟨by simp only [PyData.canLay0]; exact this.1, by simp only [PyData.depth]; omega⟩
theorem nice_tuple {n : Nat} {ds : List PyData} (h : ∀ d ∈ ds, Nice n d) : Nice (n + 1) (.tuple ds) := by
  have := nice_all h
  exact ⟨by simp only [PyData.canLay0]; exact this.1, by simp only [PyData.depth]; omega⟩
theorem Nice.shaped {n : Nat} {d : PyData} (h : Nice n d) (e : n ≤ 64) : SeqAt.shaped d = true := by
  show (d.canLay0 && decide (d.depth ≤ 64)) = true
  rw [h.lay, decide_eq_true (Nat.le_trans h.deep e)]
  rfl
/-- a sentence as data -/
def sD (s : List Nat) : PyData := .list (s.map fun (n : Nat) => .int (n : Int))
theorem sD_nice (s : List Nat) : Nice 1 (sD s) := nice_list (n := 0) fun d hd => by
  obtain ⟨n, _, rfl⟩ := List.mem_map.mp hd
  exact nice_int _ _
theorem eqvAll_ints : ∀ s t : List Nat, PyData.eqvAll (s.map fun (n : Nat) => .int (n : Int)) (t.map fun (n : Nat) => .int (n : Int)) = decide (s = t)
  | [], [] => by simp [PyData.eqvAll]
  | [], b :: t => by simp [PyData.eqvAll]
  | a :: s, [] => by simp [PyData.eqvAll]
  | a :: s, b :: t => by
    have ih := eqvAll_ints s t
    simp only [List.map_cons, PyData.eqvAll, PyData.eqv, ih]
    by_cases h : a = b
    · subst h
      simp
    · have e1 : ((a : Int) == (b : Int)) = false := by
        rw [beq_eq_false_iff_ne]
        omega
      rw [e1, Bool.false_and]
      exact (decide_eq_false fun z => h (List.cons.inj z).1).symm
theorem sD_eqv (s t : List Nat) : PyData.eqv (sD s) (sD t) = decide (s = t) := by
  unfold sD
  simp only [PyData.eqv]
  exact eqvAll_ints s t
theorem sD_at {K : PySem.W.Frag} {H : Hp} {a : Addr} {s : List Nat} (h : SentAt H a s) : Dp K H (.ref a) (sD s) := by
  refine .lst h.sq ?_
  have key : ∀ l : List Nat, DpAll K H (l.map nV) (l.map fun (n : Nat) => .int (n : Int)) := by
    intro l
    induction l with
    | nil => exact .nil
    | cons n l ih => exact .cons (.int _) ih
  exact key s
/-- an empty list as data -/
theorem eqv_nil (ds : List PyData) : PyData.eqv (.list ds) (.list []) = ds.isEmpty := by
  simp only [PyData.eqv]
  cases ds with
  | nil => simp [PyData.eqvAll]
  | cons d ds => simp [PyData.eqvAll]
theorem nice_nil : Nice 1 (.list []) := nice_list fun d hd => by cases hd
/-! ### asks, entries -/
structure AskAt (H : Hp) (a : Addr) (q : Ask) : Prop where
  ex : ∃ s, H a = some (.tup [nV q.ahead, nV q.behind, nV q.client, .ref s]) ∧ SentAt H s q.source
theorem AskAt.ext {H H' : Hp} {a : Addr} {q : Ask} (h : AskAt H a q) (e : ExtN H H') : AskAt H' a q :=
  let ⟨s, h1, h2⟩ := h.ex
  ⟨s, e _ _ h1 (fun _ z => by cases z), h2.ext e⟩
def aD (q : Ask) : PyData := .tuple [.int (q.ahead : Int), .int (q.behind : Int), .int (q.client : Int), sD q.source]
theorem aD_nice (q : Ask) : Nice 2 (aD q) := nice_tuple (n := 1) fun d hd => by
  simp only [List.mem_cons, List.not_mem_nil, or_false] at hd
  rcases hd with rfl | rfl | rfl | rfl
  · exact nice_int _ _
  · exact nice_int _ _
  · exact nice_int _ _
  · exact sD_nice _
theorem aD_at {K : PySem.W.Frag} {H : Hp} {a : Addr} {q : Ask} (h : AskAt H a q) : Dp K H (.ref a) (aD q) := by
  obtain ⟨s, h1, h2⟩ := h.ex
  exact .tup (SqT.of h1) (.cons (.int _) (.cons (.int _) (.cons (.int _) (.cons (sD_at h2) .nil))))
theorem aD_eqv (q r : Ask) : PyData.eqv (aD q) (aD r) = decide (q = r) := by
  obtain ⟨s, a, b, c⟩ := q
  obtain ⟨t, a', b', c'⟩ := r
  unfold aD
  simp only [PyData.eqv, PyData.eqvAll, sD_eqv, Bool.and_true]
  have n1 : ((a : Int) == (a' : Int)) = decide (a = a') := by rw [Bool.beq_eq_decide_eq]; exact decide_eq_decide.mpr (by omega)
  have n2 : ((b : Int) == (b' : Int)) = decide (b = b') := by rw [Bool.beq_eq_decide_eq]; exact decide_eq_decide.mpr (by omega)
  have n3 : ((c : Int) == (c' : Int)) = decide (c = c') := by rw [Bool.beq_eq_decide_eq]; exact decide_eq_decide.mpr (by omega)
  rw [n1, n2, n3, ← Bool.decide_and, ← Bool.decide_and, ← Bool.decide_and]
  refine decide_eq_decide.mpr ⟨fun ⟨h1, h2, h3, h4⟩ => by rw [h1, h2, h3, h4], fun h => ?_⟩
  injection h with h1 h2 h3 h4
  exact ⟨h2, h3, h4, h1⟩
/-- an entry's ask -/
def ownOf (e : Ent) : Ask := ⟨e.source, e.ahead, e.behind, e.client⟩
structure EntAt (H : Hp) (v : V) (e : Ent) : Prop where
  ex : ∃ t a r, v = .ref t ∧ H t = some (.tup [nV e.number, .ref a, .ref r]) ∧ AskAt H a (ownOf e) ∧ SentAt H r e.target
theorem EntAt.ext {H H' : Hp} {v : V} {e : Ent} (h : EntAt H v e) (x : ExtN H H') : EntAt H' v e :=
  let ⟨t, a, r, h1, h2, h3, h4⟩ := h.ex
  ⟨t, a, r, h1, x _ _ h2 (fun _ z => by cases z), h3.ext x, h4.ext x⟩
def eD (e : Ent) : PyData := .tuple [.int (e.number : Int), aD (ownOf e), sD e.target]
theorem eD_nice (e : Ent) : Nice 3 (eD e) := nice_tuple (n := 2) fun d hd => by
  simp only [List.mem_cons, List.not_mem_nil, or_false] at hd
  rcases hd with rfl | rfl | rfl
  · exact nice_int _ _
  · exact aD_nice _
  · exact (sD_nice _).mono (by decide)
theorem eD_at {K : PySem.W.Frag} {H : Hp} {v : V} {e : Ent} (h : EntAt H v e) : Dp K H v (eD e) := by
  obtain ⟨t, a, r, rfl, h2, h3, h4⟩ := h.ex
  exact .tup (SqT.of h2) (.cons (.int _) (.cons (aD_at h3) (.cons (sD_at h4) .nil)))
/-- lists whose items lie as F says -/
structure LstAt {α : Type} (F : Hp → V → α → Prop) (H : Hp) (a : Addr) (l : List α) : Prop where
  ex : ∃ xs : List V, H a = some (.lst xs) ∧ Paired (F H) xs l
theorem Paired.len {α β : Type} {F : α → β → Prop} : ∀ {xs : List α} {ys : List β}, Paired F xs ys → xs.length = ys.length
  | _, _, .nil => rfl
  | _, _, .cons _ r => congrArg (· + 1) (Paired.len r)
theorem Paired.at_ {α β : Type} {F : α → β → Prop} : ∀ {xs : List α} {ys : List β} {i : Nat} {y : β}, Paired F xs ys → ys[i]? = some y → ∃ x, xs[i]? = some x ∧ F x y
  | _, _, _, _, .nil, h => by simp at h
  | _, _, 0, _, .cons h _, e => by
    have e := Option.some.inj (by simpa using e)
    subst e
    exact ⟨_, rfl, h⟩
  | _, _, i + 1, y, .cons _ r, e => by
    obtain ⟨x, h1, h2⟩ := Paired.at_ (i := i) (y := y) r (by simpa using e)
    exact ⟨x, by simpa using h1, h2⟩
theorem Paired.atL {α β : Type} {F : α → β → Prop} : ∀ {xs : List α} {ys : List β} {i : Nat} {x : α}, Paired F xs ys → xs[i]? = some x → ∃ y, ys[i]? = some y ∧ F x y
  | _, _, _, _, .nil, h => by simp at h
  | _, _, 0, _, .cons h _, e => by
    have e := Option.some.inj (by simpa using e)
    subst e
    exact ⟨_, rfl, h⟩
  | _, _, i + 1, x, .cons _ r, e => by
    obtain ⟨y, h1, h2⟩ := Paired.atL (i := i) (x := x) r (by simpa using e)
    exact ⟨y, by simpa using h1, h2⟩
theorem Paired.snoc {α β : Type} {F : α → β → Prop} {x : α} {y : β} (h : F x y) : ∀ {xs : List α} {ys : List β}, Paired F xs ys → Paired F (xs ++ [x]) (ys ++ [y])
  | _, _, .nil => .cons h .nil
  | _, _, .cons a r => .cons a (Paired.snoc h r)
theorem Paired.mono {α β : Type} {F G : α → β → Prop} (h : ∀ a b, F a b → G a b) {xs : List α} {ys : List β} (p : Paired F xs ys) : Paired G xs ys := L2.Paired.mapP p h
theorem Paired.app {α β : Type} {F : α → β → Prop} : ∀ {xs : List α} {ys : List β} {xs' : List α} {ys' : List β}, Paired F xs ys → Paired F xs' ys' → Paired F (xs ++ xs') (ys ++ ys')
  | _, _, _, _, .nil, s => s
  | _, _, _, _, .cons r t, s => .cons r (Paired.app t s)
theorem LstAt.ext {α : Type} {F : Hp → V → α → Prop} {H H' : Hp} {a : Addr} {l : List α} (h : LstAt F H a l) (x : ExtN H H') (hF : ∀ v e, F H v e → F H' v e) : LstAt F H' a l :=
  let ⟨xs, h1, h2⟩ := h.ex
  ⟨xs, x _ _ h1 (fun _ z => by cases z), Paired.mono hF h2⟩
abbrev EntsAt := LstAt EntAt
theorem entsExt {H H' : Hp} {a : Addr} {l : List Ent} (h : EntsAt H a l) (x : ExtN H H') : EntsAt H' a l := h.ext x fun _ _ e => e.ext x
theorem lst_dp {α : Type} {F : Hp → V → α → Prop} {D : α → PyData} {K : PySem.W.Frag} {H : Hp} {a : Addr} {l : List α} (h : LstAt F H a l) (hF : ∀ v e, F H v e → Dp K H v (D e)) : Dp K H (.ref a) (.list (l.map D)) := by
  obtain ⟨xs, h1, h2⟩ := h.ex
  refine .lst (SqL.of h1) ?_
  have key : ∀ {xs : List V} {l : List α}, Paired (F H) xs l → DpAll K H xs (l.map D) := by
    intro xs l p
    induction p with
    | nil => exact .nil
    | cons a r ih => exact .cons (hF _ _ a) ih
  exact key h2
/-! ### way -/
abbrev sWay : Stmt := top 12
def spWay : Sp := fun vs H Q _ => ∃ (a o : Addr) (A B : Sent), vs = [.ref a, .ref o] ∧ SentAt H a A ∧ SentAt H o B ∧ A.length ≤ 1000 ∧ B.length ≤ 1000 ∧
  ∀ H' p, Same H H' → H p = none → SentAt H' p (Ut03.way A B) → Q (.ref p) H'
theorem scWay : FnScope ["one", "other", "rows", "left", "right", "found", "step"] ["one", "other"] (defScope sWay) := ⟨rfl, rfl, rfl, by decide +kernel, rfl, by decide +kernel, by decide +kernel⟩
theorem lstep_i {A B : Sent} {i j : Nat} (h : TM.lstep A B i j ≠ 3) : 0 < i := by
  unfold TM.lstep at h
  split at h
  · rename_i c; exact c.1
  · split at h
    · rename_i c; exact c.1
    · split at h
      · rename_i c; exact c.1
      · exact absurd rfl h
theorem lstep_j {A B : Sent} {i j : Nat} (h0 : ¬ (i = 0 ∧ j = 0)) (h : TM.lstep A B i j ≠ 2) : 0 < j := by
  by_cases h3 : TM.lstep A B i j = 3
  · exact (TM.lstep_three h0 h3).1
  · unfold TM.lstep at h h3
    split at h
    · rename_i c; exact c.2.1
    · rename_i c1
      rw [if_neg c1] at h3
      split at h
      · rename_i c; exact c.2.1
      · rename_i c2
        rw [if_neg c2] at h3
        split at h
        · exact absurd rfl h
        · rename_i c3
          rw [if_neg c3] at h3
          exact absurd rfl h3
section
variable {P : Program} {w : World} {K : PySem.W.Frag} {mg : Str → Option Value} {base : Heap}
theorem ok_way {f : Addr} {fd : FuncData} (F : Fun K "way" "way" sWay f fd) (G : Glob mg) (DD : Dep P w K mg base 2 "distances" ["one", "other"] spDists) (DL : Dep P w K mg base 1 "last_step" ["rows", "one", "other", "left", "right"] spLast) :
    FnOk P w K mg base CX0 3 f fd ["one", "other"] spWay := by
  refine F.ok scWay (fun vs H Q E h => ?_) (fun cdv A outer s H vs Q E hr h => ⟨_, pss_cons (ps_set (i := 2) scWay.nd rfl (Or.inl rfl) (pe_dep DD hr rfl (pa_cons (pv 0) (pa_cons (pv 1) pa_nil))))
    (pss_cons (ps_set (i := 3) scWay.nd rfl (Or.inl rfl) (pe_len G (pv 0)))
    (pss_cons (ps_set (i := 4) scWay.nd rfl (Or.inl rfl) (pe_len G (pv 1)))
    (pss_cons (ps_set (i := 5) scWay.nd rfl (Or.inl rfl) (pe_lst pa_nil))
    (pss_cons (ps_while PassesOwn.never (pt_cmpR op_gt (pe_op op_add (pv 3) (pv 4)) pe_int (nomark _))
      (pss_cons (ps_set (i := 6) scWay.nd rfl (Or.inl rfl) (pe_dep DL hr rfl (pa_cons (pv 2) (pa_cons (pv 0) (pa_cons (pv 1) (pa_cons (pv 3) (pa_cons (pv 4) pa_nil)))))))
      (pss_cons (ps_expr (pe_bm PySem.F.plainAttrs_list PySem.F.slot_list_append PySem.F.type_list_append mt_append (pv 5) (pa_cons (pv 6) pa_nil)))
      (pss_cons (ps_if (pt_cmpR op_ne (pv 6) (pe_gl G.put_in rfl) (nomark _)) (pss_one (ps_set (i := 3) scWay.nd rfl (Or.inl rfl) (pe_op op_sub (pv 3) pe_int))) pss_nil)
      (pss_one (ps_if (pt_cmpR op_ne (pv 6) (pe_gl G.taken_out rfl) (nomark _)) (pss_one (ps_set (i := 4) scWay.nd rfl (Or.inl rfl) (pe_op op_sub (pv 4) pe_int))) pss_nil))))))
    (pss_one (ps_ret (pe_revL (pv 5)))))))), ?_⟩)
  · obtain ⟨_, _, _, _, rfl, _⟩ := h
    rfl
  · obtain ⟨a, o, X, Y, rfl, hA, hB, lA, lB, k⟩ := h
    have big := sizeBig
    have eX : (X.map nV).length = X.length := List.length_map ..
    have eY : (Y.map nV).length = Y.length := List.length_map ..
    refine ⟨_, rfl, _, rfl, a, o, X, Y, rfl, hA, hB, lB, fun H1 t s1 _ hT => ?_⟩
    refine ⟨_, rfl, a, _, rfl, .inl (hA.same s1).sq, _, rfl, o, _, rfl, .inl (hB.same s1).sq, (by show 0 ≤ sizeLine; decide), fun p hp => ?_⟩
    refine ⟨fun m σ' H' => ∃ (i j f : Nat) (fs : List Nat) (v6 : Option V), m = i + j ∧ σ' = [some (.ref a), some (.ref o), some (.ref t), some (nV i), some (nV j), some (.ref p), v6] ∧ i ≤ X.length ∧ j ≤ Y.length ∧ i + j < f ∧ fs.length + f = X.length + Y.length + 1 ∧
        H' = upd H1 p (.lst (fs.map nV)) ∧ TM.steps X Y f i j ++ fs.reverse = Ut03.way X Y,
      ⟨X.length + Y.length, X.length, Y.length, X.length + Y.length + 1, [], none, rfl, by rw [eX, eY]; rfl, Nat.le_refl _, Nat.le_refl _, by omega, by simp, rfl, by rw [List.reverse_nil, List.append_nil, TM.way_is]⟩, ?_⟩
    rintro m σ' H' ⟨i, j, f, fs, v6, rfl, rfl, hi, hj, hf, lf, rfl, hw⟩
    refine ⟨_, rfl, _, rfl, _, _, rfl, rfl, _, _, rfl, rfl, _, rfl, ?_⟩
    have sp : ∀ u, Same H1 (upd H1 p u) := fun u => same_new hp
    by_cases c : i = 0 ∧ j = 0
    · rw [decide_eq_false (show ¬ (0 : Int) < (i : Int) + (j : Int) by omega)]
      refine iteF ⟨_, rfl, p, _, rfl, SqL.of upd_same, fun p2 hp2 => ?_⟩
      have e : fs.reverse = Ut03.way X Y := by
        rw [← hw]
        obtain ⟨rfl, rfl⟩ := c
        cases f with
        | zero => omega
        | succ f =>
          unfold TM.steps
          rw [if_pos ⟨rfl, rfl⟩, List.nil_append]
      have s2 : Same H (upd (upd H1 p (.lst (fs.map nV))) p2 (.lst (fs.map nV).reverse)) := (s1.trans (sp _)).trans (same_new hp2)
      refine k _ p2 s2 ((s1.trans (sp _)).free hp2) ⟨?_, ?_⟩
      · rw [upd_same, ← e, List.map_reverse]
      · rw [← e, List.length_reverse]
        omega
    · rw [decide_eq_true (show (0 : Int) < (i : Int) + (j : Int) by omega)]
      refine iteT ?_
      have h0 := hT.same (sp (.lst (fs.map nV)))
      refine ⟨fun σ2 H2 => ∃ m', m' < i + j ∧ ∃ (i' j' f' : Nat) (fs : List Nat) (v6 : Option V), m' = i' + j' ∧ σ2 = [some (.ref a), some (.ref o), some (.ref t), some (nV i'), some (nV j'), some (.ref p), v6] ∧ i' ≤ X.length ∧ j' ≤ Y.length ∧ i' + j' < f' ∧ fs.length + f' = X.length + Y.length + 1 ∧
        H2 = upd H1 p (.lst (fs.map nV)) ∧ TM.steps X Y f' i' j' ++ fs.reverse = Ut03.way X Y, fun σ2 H2 h => h, ?_⟩
      refine ⟨_, rfl, _, rfl, _, rfl, _, rfl, _, rfl, t, a, o, X, Y, i, j, rfl, h0, (hA.same s1).same (sp _), (hB.same s1).same (sp _), hi, hj, ?_⟩
      refine ⟨_, rfl, .inl ⟨rfl, _, SqL.of upd_same⟩, _, rfl, p, _, _, rfl, rfl, upd_same, by rw [List.length_map]; omega, ?_⟩
      generalize hst : TM.lstep X Y i j = st
      have hgo : TM.steps X Y f i j = TM.steps X Y (f - 1) (TM.backI st i) (TM.backJ st j) ++ [st] := by
        cases f with
        | zero => omega
        | succ f =>
          rw [TM.steps, if_neg c, hst]
          rfl
      have hl : TM.steps X Y (f - 1) (TM.backI st i) (TM.backJ st j) ++ (fs ++ [st]).reverse = Ut03.way X Y := by
        rw [List.reverse_append, List.reverse_cons, List.reverse_nil, List.nil_append, ← List.append_assoc, ← hgo]
        exact hw
      have hh : upd (upd H1 p (.lst (fs.map nV))) p (.lst (fs.map nV ++ [nV st])) = upd H1 p (.lst ((fs ++ [st]).map nV)) := by
        rw [upd_upd, List.map_append]
        rfl
      rw [hh]
      refine ⟨_, rfl, rfl, _, rfl, ?_⟩
      have d3 : (!decide (nV st = V.int 3)) = !decide (st = 3) := congrArg (!·) (decide_eq_decide.mpr ⟨fun z => by have := V.int.inj z; omega, fun z => congrArg V.int (by omega)⟩)
      have d2 : (!decide (nV st = V.int 2)) = !decide (st = 2) := congrArg (!·) (decide_eq_decide.mpr ⟨fun z => by have := V.int.inj z; omega, fun z => congrArg V.int (by omega)⟩)
      rw [d3]
      by_cases c3 : st = 3
      · rw [decide_eq_true c3]
        refine iteF ⟨_, rfl, rfl, _, rfl, ?_⟩
        rw [d2, decide_eq_false (show ¬ st = 2 by omega)]
        have pj := lstep_j (A := X) (B := Y) c (by omega)
        refine iteT ⟨_, rfl, _, _, rfl, rfl, i + (j - 1), by omega, i, j - 1, f - 1, fs ++ [st], some (nV st), rfl, ?_, hi, by omega, by omega, by rw [List.length_append]; show fs.length + 1 + (f - 1) = _; omega, rfl, ?_⟩
        · show _ = [some (.ref a), some (.ref o), some (.ref t), some (nV i), some (V.int ((j - 1 : Nat) : Int)), some (.ref p), some (nV st)]
          rw [show ((j - 1 : Nat) : Int) = (j : Int) - 1 by omega]
          rfl
        · rw [c3] at hl ⊢
          exact hl
      · rw [decide_eq_false c3]
        have pi := lstep_i (A := X) (B := Y) (i := i) (j := j) (by omega)
        refine iteT ⟨_, rfl, _, _, rfl, rfl, _, rfl, rfl, _, rfl, ?_⟩
        rw [d2]
        have ei : ((i - 1 : Nat) : Int) = (i : Int) - 1 := by omega
        by_cases c2 : st = 2
        · rw [decide_eq_true c2]
          refine iteF ⟨(i - 1) + j, by omega, i - 1, j, f - 1, fs ++ [st], some (nV st), rfl, ?_, by omega, hj, by omega, by rw [List.length_append]; show fs.length + 1 + (f - 1) = _; omega, rfl, ?_⟩
          · show _ = [some (.ref a), some (.ref o), some (.ref t), some (V.int ((i - 1 : Nat) : Int)), some (nV j), some (.ref p), some (nV st)]
            rw [ei]
            rfl
          · rw [c2] at hl ⊢
            exact hl
        · rw [decide_eq_false c2]
          have pj := lstep_j (A := X) (B := Y) c (by omega)
          refine iteT ⟨_, rfl, _, _, rfl, rfl, (i - 1) + (j - 1), by omega, i - 1, j - 1, f - 1, fs ++ [st], some (nV st), rfl, ?_, by omega, by omega, by omega, by rw [List.length_append]; show fs.length + 1 + (f - 1) = _; omega, rfl, ?_⟩
          · show _ = [some (.ref a), some (.ref o), some (.ref t), some (V.int ((i - 1 : Nat) : Int)), some (V.int ((j - 1 : Nat) : Int)), some (.ref p), some (nV st)]
            rw [ei, show ((j - 1 : Nat) : Int) = (j : Int) - 1 by omega]
            rfl
          · have b1 : TM.backI st i = i - 1 := if_neg c3
            have b2 : TM.backJ st j = j - 1 := if_neg c2
            rw [b1, b2] at hl
            exact hl
end
end TW

/-! The walk: how near, told, asks, scores. -/
namespace TW
open PySem PySem.Spec PyProof.Rows L2 LamX
open Ut03 (Sent Ask House)
/-! ### nearness -/
abbrev sNear : Stmt := top 13
def spNear : Sp := fun vs H Q _ => ∃ (a o : Addr) (A B : Sent), vs = [.ref a, .ref o] ∧ SentAt H a A ∧ SentAt H o B ∧ A.length ≤ 1000 ∧ B.length ≤ 1000 ∧ ∀ H', Same H H' → Q (nV (Ut03.near A B)) H'
theorem scNear : FnScope ["one", "other", "longer"] ["one", "other"] (defScope sNear) := ⟨rfl, rfl, rfl, by decide +kernel, rfl, by decide +kernel, by decide +kernel⟩
section
variable {P : Program} {w : World} {K : PySem.W.Frag} {mg : Str → Option Value} {base : Heap}
theorem ok_near {f : Addr} {fd : FuncData} (F : Fun K "nearness" "nearness" sNear f fd) (G : Glob mg) (DD : Dep P w K mg base 3 "distance" ["one", "other"] spDist) :
    FnOk P w K mg base CX0 4 f fd ["one", "other"] spNear := by
  refine F.ok scNear (fun vs H Q E h => ?_) (fun cdv A outer s H vs Q E hr h => ⟨_, pss_cons (ps_set (i := 2) scNear.nd rfl (Or.inl rfl) (pe_callB (call_max2 rfl) rfl G.max (by decide +kernel) (pa_cons (pe_len G (pv 0)) (pa_cons (pe_len G (pv 1)) pa_nil))))
    (pss_cons (ps_if (pt_cmpR op_eq (pv 2) pe_int (nomark _)) (pss_one (ps_ret pe_int)) pss_nil)
    (pss_one (ps_ret (pe_op op_fdivN (pe_op op_mul pe_int (pe_op op_sub (pv 2) (pe_dep DD hr rfl (pa_cons (pv 0) (pa_cons (pv 1) pa_nil))))) (pv 2))))), ?_⟩)
  · obtain ⟨_, _, _, _, rfl, _⟩ := h
    rfl
  · obtain ⟨a, o, X, Y, rfl, hA, hB, lA, lB, k⟩ := h
    have eX : (X.map nV).length = X.length := List.length_map ..
    have eY : (Y.map nV).length = Y.length := List.length_map ..
    have eM : (if ((Y.map nV).length : Int) > ((X.map nV).length : Int) then ((Y.map nV).length : Int) else ((X.map nV).length : Int)) = ((max X.length Y.length : Nat) : Int) := by
      rw [eX, eY]
      split <;> omega
    refine ⟨_, rfl, a, _, rfl, .inl hA.sq, _, rfl, o, _, rfl, .inl hB.sq, _, _, rfl, ?_⟩
    rw [eM]
    generalize hm : max X.length Y.length = m
    have dl := TM.distance_le X Y
    rw [hm] at dl
    refine ⟨_, rfl, rfl, _, rfl, ?_⟩
    by_cases c : m = 0
    · rw [decide_eq_true (show V.int ((m : Nat) : Int) = V.int 0 by rw [c]; rfl)]
      refine iteT ?_
      have e : Ut03.near X Y = 100 := by
        unfold Ut03.near
        rw [hm, if_pos c]
      have := k H (Same.refl _)
      rw [e] at this
      exact this
    · rw [decide_eq_false (show ¬ V.int ((m : Nat) : Int) = V.int 0 from fun z => c (by have := V.int.inj z; omega))]
      refine iteF ?_
      refine ⟨_, rfl, _, rfl, _, rfl, a, o, X, Y, rfl, hA, hB, lB, fun H' s1 => ?_⟩
      refine ⟨_, _, rfl, rfl, _, _, rfl, rfl, .inl ⟨by decide, by decide⟩, _, rfl, _, _, rfl, rfl, ⟨by omega, by omega⟩, ?_⟩
      have e : Ut03.near X Y = 100 * (m - Ut03.distance X Y) / m := by
        unfold Ut03.near
        rw [hm, if_neg c]
      have ez : (100 * (((m : Nat) : Int) - ((Ut03.distance X Y : Nat) : Int))).fdiv ((m : Nat) : Int) = ((Ut03.near X Y : Nat) : Int) := by
        rw [e, Int.fdiv_eq_ediv_of_nonneg _ (by omega)]
        rw [show ((m : Nat) : Int) - ((Ut03.distance X Y : Nat) : Int) = ((m - Ut03.distance X Y : Nat) : Int) by omega]
        rfl
      show Q (V.int ((100 * (((m : Nat) : Int) - ((Ut03.distance X Y : Nat) : Int))).fdiv ((m : Nat) : Int))) H'
      rw [ez]
      exact k _ s1
end
/-! ### told -/
abbrev sTold : Stmt := top 14
def spTold : Sp := fun vs H Q _ => ∃ (a : Addr) (s : List Nat), vs = [.ref a] ∧ SentAt H a s ∧ s.length ≤ 10000 ∧ ∀ H' p, Same H H' → H p = none → SentAt H' p (s.length :: s) → Q (.ref p) H'
theorem scTold : FnScope ["sentence"] ["sentence"] (defScope sTold) := ⟨rfl, rfl, rfl, by decide +kernel, rfl, by decide +kernel, by decide +kernel⟩
section
variable {P : Program} {w : World} {K : PySem.W.Frag} {mg : Str → Option Value} {base : Heap}
theorem ok_told {f : Addr} {fd : FuncData} (F : Fun K "told" "told" sTold f fd) (G : Glob mg) : FnOk P w K mg base CX0 1 f fd ["sentence"] spTold := by
  refine F.ok scTold (fun vs H Q E h => ?_) (fun cdv A outer s H vs Q E hr h => ⟨_, pss_one (ps_ret (pe_op op_cat (pe_lst (pa_cons (pe_len G (pv 0)) pa_nil)) (pv 0))), ?_⟩)
  · obtain ⟨_, _, rfl, _⟩ := h
    rfl
  · obtain ⟨a, ns, rfl, hs, l, k⟩ := h
    have big := sizeBig
    refine ⟨_, rfl, a, _, rfl, .inl hs.sq, (by show 1 ≤ sizeLine; decide), fun p hp => ⟨_, rfl, p, a, _, _, rfl, rfl, upd_same, (hs.same (same_new hp)).at_, by rw [List.length_map]; show 1 + ns.length ≤ _; omega, fun p2 hp2 => ?_⟩⟩
    refine k _ p2 ((same_new hp).trans (same_new hp2)) ((same_new hp).free hp2) ⟨?_, by rw [List.length_cons]; omega⟩
    rw [upd_same, List.length_map]
    rfl
end
/-! ### is_ask -/
abbrev sIsAsk : Stmt := top 21
def spIsAsk : Sp := fun vs H Q _ => ∃ (a : Addr) (q : Ask), vs = [.ref a] ∧ AskAt H a q ∧ ∀ H', Same H H' → Q (.bl (Ut03.askOk q)) H'
theorem scIsAsk : FnScope ["ask", "ahead", "behind", "client", "sentence"] ["ask"] (defScope sIsAsk) := ⟨rfl, rfl, rfl, by decide +kernel, rfl, by decide +kernel, by decide +kernel⟩
section
variable {P : Program} {w : World} {K : PySem.W.Frag} {mg : Str → Option Value} {base : Heap}
theorem ok_isAsk {f : Addr} {fd : FuncData} (F : Fun K "is_ask" "is_ask" sIsAsk f fd) (G : Glob mg) (DA : Dep P w K mg base 1 "are_words" ["numbers"] spAre) : FnOk P w K mg base CX0 2 f fd ["ask"] spIsAsk := by
  refine F.ok scIsAsk (fun vs H Q E h => ?_) (fun cdv A outer s H vs Q E hr h => ⟨_, pss_cons (ps_asg (pv 0) (pg_tup rfl (pgs_cons (pg_name (i := 1) scIsAsk.nd rfl (Or.inl rfl)) (pgs_cons (pg_name (i := 2) scIsAsk.nd rfl (Or.inl rfl)) (pgs_cons (pg_name (i := 3) scIsAsk.nd rfl (Or.inl rfl)) (pgs_cons (pg_name (i := 4) scIsAsk.nd rfl (Or.inl rfl)) pgs_nil))))))
    (pss_cons (ps_if (PW.pt (pw_or (pt_cmpR op_gt (pv 1) (pe_gl G.most_around rfl) (nomark _)) (pw_or (pt_cmpR op_gt (pv 2) (pe_gl G.most_around rfl) (nomark _)) (pw_or1 (pt_cmpR op_gt (pv 3) (pe_gl G.most_client rfl) (nomark _)))))) (pss_one (ps_ret pe_bl)) pss_nil)
    (pss_one (ps_ret (pe_and (pe_cmpR op_gt (pe_len G (pv 4)) pe_int (nomark _)) (pe_one (pe_dep DA hr rfl (pa_cons (pv 4) pa_nil))))))), ?_⟩)
  · obtain ⟨_, _, rfl, _⟩ := h
    rfl
  · obtain ⟨a, q, rfl, hq, k⟩ := h
    obtain ⟨s, h1, h2⟩ := hq.ex
    have eS : (q.source.map nV).length = q.source.length := List.length_map ..
    refine ⟨_, rfl, a, _, rfl, SqT.of h1, rfl, _, _, rfl, _, _, rfl, _, _, rfl, _, _, rfl, rfl, ?_⟩
    -- the end, where the ask is refused by a number
    have no : (9999 < q.ahead ∨ 9999 < q.behind ∨ 99 < q.client) → Q (.bl false) H := fun h => by
      have e : Ut03.askOk q = false := by
        unfold Ut03.askOk
        simp only [Bool.and_eq_false_iff, decide_eq_false_iff_not]
        omega
      have := k H (Same.refl _)
      rw [e] at this
      exact this
    refine ⟨_, rfl, _, _, rfl, rfl, _, rfl, ?_⟩
    by_cases c1 : 9999 < q.ahead
    · rw [decide_eq_true (show (9999 : Int) < (q.ahead : Int) by omega)]
      exact iteT (iteT (no (.inl c1)))
    rw [decide_eq_false (show ¬ (9999 : Int) < (q.ahead : Int) by omega)]
    refine iteF ⟨_, rfl, _, _, rfl, rfl, _, rfl, ?_⟩
    by_cases c2 : 9999 < q.behind
    · rw [decide_eq_true (show (9999 : Int) < (q.behind : Int) by omega)]
      exact iteT (iteT (no (.inr (.inl c2))))
    rw [decide_eq_false (show ¬ (9999 : Int) < (q.behind : Int) by omega)]
    refine iteF ⟨_, rfl, _, _, rfl, rfl, _, rfl, ?_⟩
    by_cases c3 : 99 < q.client
    · rw [decide_eq_true (show (99 : Int) < (q.client : Int) by omega)]
      exact iteT (no (.inr (.inr c3)))
    rw [decide_eq_false (show ¬ (99 : Int) < (q.client : Int) by omega)]
    refine iteF ?_
    have e : Ut03.askOk q = (Ut03.sentOk q.source && decide (1 ≤ q.source.length)) := by
      unfold Ut03.askOk
      rw [decide_eq_true (show q.ahead ≤ 9999 by omega), decide_eq_true (show q.behind ≤ 9999 by omega), decide_eq_true (show q.client ≤ 99 by omega), Bool.and_true, Bool.and_true, Bool.and_true]
    refine ⟨_, rfl, s, _, rfl, .inl h2.sq, _, _, rfl, rfl, _, rfl, ?_⟩
    by_cases c4 : 1 ≤ q.source.length
    · rw [decide_eq_true (show (0 : Int) < ((q.source.map nV).length : Int) by rw [eS]; omega)]
      refine iteT ⟨_, rfl, s, q.source, rfl, h2, fun H' s1 => ?_⟩
      rw [decide_eq_true c4, Bool.and_true] at e
      rw [← e]
      exact k _ s1
    · rw [decide_eq_false (show ¬ (0 : Int) < ((q.source.map nV).length : Int) by rw [eS]; omega)]
      refine iteF ?_
      rw [decide_eq_false c4, Bool.and_false] at e
      rw [← e]
      exact k _ (Same.refl _)
end
/-! ### likeness -/
abbrev sLike : Stmt := top 22
def spLike : Sp := fun vs H Q _ => ∃ (a o : Addr) (e : Ent) (q : Ask), vs = [.ref a, .ref o] ∧ AskAt H a (ownOf e) ∧ AskAt H o q ∧ e.source.length ≤ 1000 ∧ q.source.length ≤ 1000 ∧ ∀ H', Same H H' → Q (nV (TM.likely e q)) H'
theorem scLike : FnScope ["own", "ask"] ["own", "ask"] (defScope sLike) := ⟨rfl, rfl, rfl, by decide +kernel, rfl, by decide +kernel, by decide +kernel⟩
section
variable {P : Program} {w : World} {K : PySem.W.Frag} {mg : Str → Option Value} {base : Heap}
theorem nat_eq (a b : Nat) : decide (nV a = nV b) = decide (a = b) := decide_eq_decide.mpr ⟨fun z => by have := V.int.inj z; omega, fun z => by rw [z]⟩
theorem ok_like {f : Addr} {fd : FuncData} (F : Fun K "likeness" "likeness" sLike f fd) (G : Glob mg) (DN : Dep P w K mg base 4 "nearness" ["one", "other"] spNear) : FnOk P w K mg base CX0 5 f fd ["own", "ask"] spLike := by
  refine F.ok scLike (fun vs H Q E h => ?_) (fun cdv A outer s H vs Q E hr h => ⟨_, pss_cons (ps_if (pt_cmpR (op_eqD hr.units) (pe_ix ix_tup (pv 0) pe_int (fun _ _ => rfl)) (pe_ix ix_tup (pv 1) pe_int (fun _ _ => rfl)) (nomark _))
      (pss_one (ps_ret (pe_op op_add (pe_op op_add (pe_gl G.same rfl)
        (pe_callTy call_int1 rfl G.int (by decide +kernel) (pa_cons (pe_cmpR op_eq (pe_ix ix_tup (pv 0) pe_int (fun _ _ => rfl)) (pe_ix ix_tup (pv 1) pe_int (fun _ _ => rfl)) (nomark _)) pa_nil)))
        (pe_callTy call_int1 rfl G.int (by decide +kernel) (pa_cons (pe_cmpR op_eq (pe_ix ix_tup (pv 0) pe_int (fun _ _ => rfl)) (pe_ix ix_tup (pv 1) pe_int (fun _ _ => rfl)) (nomark _)) pa_nil))))) pss_nil)
    (pss_one (ps_ret (pe_callB (call_min2 rfl) rfl G.min (by decide +kernel) (pa_cons (pe_dep DN hr rfl (pa_cons (pe_ix ix_tup (pv 0) pe_int (fun _ _ => rfl)) (pa_cons (pe_ix ix_tup (pv 1) pe_int (fun _ _ => rfl)) pa_nil))) (pa_cons (pe_gl G.most_unlike rfl) pa_nil))))), ?_⟩)
  · obtain ⟨_, _, _, _, rfl, _⟩ := h
    rfl
  · obtain ⟨a, o, e, q, rfl, hE, hQ, lE, lQ, k⟩ := h
    obtain ⟨s, h1, h2⟩ := hE.ex
    obtain ⟨t, g1, g2⟩ := hQ.ex
    refine ⟨_, rfl, a, _, _, _, rfl, rfl, SqT.of h1, at_of (j := 3) rfl rfl, _, rfl, o, _, _, _, rfl, rfl, SqT.of g1, at_of (j := 3) rfl rfl, sD e.source, sD q.source, sD_at h2, sD_at g2, (sD_nice _).shaped (by decide), (sD_nice _).shaped (by decide), _, rfl, ?_⟩
    rw [sD_eqv]
    by_cases c : e.source = q.source
    · rw [decide_eq_true c]
      refine iteT ⟨_, rfl, a, _, _, _, rfl, rfl, SqT.of h1, at_of (j := 0) rfl rfl, _, rfl, o, _, _, _, rfl, rfl, SqT.of g1, at_of (j := 0) rfl rfl, rfl, .inr ⟨_, rfl, _, _, rfl, rfl, ?_⟩⟩
      refine ⟨_, rfl, a, _, _, _, rfl, rfl, SqT.of h1, at_of (j := 1) rfl rfl, _, rfl, o, _, _, _, rfl, rfl, SqT.of g1, at_of (j := 1) rfl rfl, rfl, .inr ⟨_, rfl, _, _, rfl, rfl, ?_⟩⟩
      have ek : (100 : Int) + (if decide (nV (ownOf e).ahead = nV q.ahead) = true then 1 else 0) + (if decide (nV (ownOf e).behind = nV q.behind) = true then 1 else 0) = ((TM.likely e q : Nat) : Int) := by
        rw [nat_eq, nat_eq]
        unfold TM.likely
        rw [if_pos c]
        show (100 : Int) + (if decide (e.ahead = q.ahead) = true then 1 else 0) + (if decide (e.behind = q.behind) = true then 1 else 0) = _
        by_cases x1 : e.ahead = q.ahead <;> by_cases x2 : e.behind = q.behind <;> simp [x1, x2]
      show Q (V.int ((100 : Int) + (if decide (nV (ownOf e).ahead = nV q.ahead) = true then 1 else 0) + (if decide (nV (ownOf e).behind = nV q.behind) = true then 1 else 0))) H
      rw [ek]
      exact k _ (Same.refl _)
    · rw [decide_eq_false c]
      refine iteF ⟨_, rfl, a, _, _, _, rfl, rfl, SqT.of h1, at_of (j := 3) rfl rfl, _, rfl, o, _, _, _, rfl, rfl, SqT.of g1, at_of (j := 3) rfl rfl, s, t, e.source, q.source, rfl, h2, g2, lE, lQ, fun H' s1 => ⟨_, _, rfl, ?_⟩⟩
      have ek : (if (99 : Int) < ((Ut03.near e.source q.source : Nat) : Int) then (99 : Int) else ((Ut03.near e.source q.source : Nat) : Int)) = ((TM.likely e q : Nat) : Int) := by
        unfold TM.likely
        rw [if_neg c]
        split <;> omega
      rw [ek]
      exact k _ s1
end
/-! ### score -/
abbrev sScore : Stmt := top 23
def spScore : Sp := fun vs H Q _ => ∃ (v : V) (o : Addr) (e : Ent) (q : Ask), vs = [v, .ref o] ∧ EntAt H v e ∧ AskAt H o q ∧ e.source.length ≤ 1000 ∧ q.source.length ≤ 1000 ∧ ∀ H', Same H H' → Q (nV (TM.points e q)) H'
theorem scScore : FnScope ["entry", "ask", "number", "own", "translation"] ["entry", "ask"] (defScope sScore) := ⟨rfl, rfl, rfl, by decide +kernel, rfl, by decide +kernel, by decide +kernel⟩
section
variable {P : Program} {w : World} {K : PySem.W.Frag} {mg : Str → Option Value} {base : Heap}
theorem ok_score {f : Addr} {fd : FuncData} (F : Fun K "score" "score" sScore f fd) (G : Glob mg) (DL : Dep P w K mg base 5 "likeness" ["own", "ask"] spLike) : FnOk P w K mg base CX0 6 f fd ["entry", "ask"] spScore := by
  refine F.ok scScore (fun vs H Q E h => ?_) (fun cdv A outer s H vs Q E hr h => ⟨_, pss_cons (ps_asg (pv 0) (pg_tup rfl (pgs_cons (pg_name (i := 2) scScore.nd rfl (Or.inl rfl)) (pgs_cons (pg_name (i := 3) scScore.nd rfl (Or.inl rfl)) (pgs_cons (pg_name (i := 4) scScore.nd rfl (Or.inl rfl)) pgs_nil)))))
    (pss_cons (ps_if (pt_cmpR op_eq (pe_ix ix_tup (pv 3) pe_int (fun _ _ => rfl)) (pe_ix ix_tup (pv 1) pe_int (fun _ _ => rfl)) (nomark _)) (pss_one (ps_ret (pe_dep DL hr rfl (pa_cons (pv 3) (pa_cons (pv 1) pa_nil))))) pss_nil)
    (pss_one (ps_ret (pe_callB (call_max2 rfl) rfl G.max (by decide +kernel) (pa_cons (pe_op op_sub (pe_dep DL hr rfl (pa_cons (pv 3) (pa_cons (pv 1) pa_nil))) (pe_gl G.other_client rfl)) (pa_cons pe_int pa_nil)))))), ?_⟩)
  · obtain ⟨_, _, _, _, rfl, _⟩ := h
    rfl
  · obtain ⟨v, o, e, q, rfl, hE, hQ, lE, lQ, k⟩ := h
    obtain ⟨t, a, r, rfl, h1, h2, h3⟩ := hE.ex
    obtain ⟨sa, g1, g2⟩ := h2.ex
    obtain ⟨so, f1, f2⟩ := hQ.ex
    refine ⟨_, rfl, t, _, rfl, SqT.of h1, rfl, _, _, rfl, _, _, rfl, _, _, rfl, rfl, ?_⟩
    refine ⟨_, rfl, a, _, _, _, rfl, rfl, SqT.of g1, at_of (j := 2) rfl rfl, _, rfl, o, _, _, _, rfl, rfl, SqT.of f1, at_of (j := 2) rfl rfl, rfl, _, rfl, ?_⟩
    rw [nat_eq]
    by_cases c : e.client = q.client
    · rw [decide_eq_true (show (ownOf e).client = q.client from c)]
      refine iteT ⟨_, rfl, _, rfl, a, o, e, q, rfl, h2, hQ, lE, lQ, fun H' s1 => ?_⟩
      have ek : TM.points e q = TM.likely e q := if_pos c
      rw [← ek]
      exact k _ s1
    · rw [decide_eq_false (show ¬ (ownOf e).client = q.client from c)]
      refine iteF ⟨_, rfl, _, rfl, a, o, e, q, rfl, h2, hQ, lE, lQ, fun H' s1 => ⟨_, _, rfl, rfl, _, _, rfl, ?_⟩⟩
      have ek : (if (0 : Int) > ((TM.likely e q : Nat) : Int) - 3 then (0 : Int) else ((TM.likely e q : Nat) : Int) - 3) = ((TM.points e q : Nat) : Int) := by
        unfold TM.points
        rw [if_neg c]
        split <;> omega
      rw [ek]
      exact k _ s1
end
end TW

/-! The walk: which entries are found. -/
namespace TW
open PySem PySem.Spec PyProof.Rows L2 LamX
open Ut03 (Sent Ask House)
/-- the heap without one object -/
def sans (D : Addr) (H : Hp) : Hp := fun b => if b = D then none else H b
theorem sans_upd {D : Addr} {H : Hp} {o : HO} : sans D (upd H D o) = sans D H := by
  funext b
  unfold sans
  by_cases h : b = D
  · rw [if_pos h, if_pos h]
  · rw [if_neg h, if_neg h, upd_ne h]
theorem sans_sub {D : Addr} {H : Hp} : Same (sans D H) H := fun b o e => by
  unfold sans at e
  by_cases h : b = D
  · rw [if_pos h] at e; cases e
  · rw [if_neg h] at e; exact e
theorem sans_in {D b : Addr} {H : Hp} {o : HO} (e : H b = some o) (h : b ≠ D) : sans D H b = some o := by
  unfold sans
  rw [if_neg h]
  exact e
theorem sans_mono {D : Addr} {H H' : Hp} (s : Same H H') : Same (sans D H) (sans D H') := fun b o e => by
  by_cases h : b = D
  · unfold sans at e
    rw [if_pos h] at e
    cases e
  · exact sans_in (s b o (sans_sub b o e)) h
theorem sans_of {D : Addr} {H H' : Hp} (h : H D = none) (s : ∀ b o, H b = some o → H' b = some o) : Same H (sans D H') := fun b o e => sans_in (s b o e) (ne_of_none e h)
/-- a row of what is found -/
structure RowAt (H : Hp) (v : V) (x : TM.Row) : Prop where
  ex : ∃ t r, v = .ref t ∧ H t = some (.tup [nV x.1, nV x.2.number, .ref r]) ∧ SentAt H r x.2.target
theorem RowAt.ext {H H' : Hp} {v : V} {x : TM.Row} (h : RowAt H v x) (e : ExtN H H') : RowAt H' v x :=
  let ⟨t, r, h1, h2, h3⟩ := h.ex
  ⟨t, r, h1, e _ _ h2 (fun _ z => by cases z), h3.ext e⟩
abbrev RowsAt := LstAt RowAt
theorem rowsExt {H H' : Hp} {a : Addr} {l : List TM.Row} (h : RowsAt H a l) (x : ExtN H H') : RowsAt H' a l := h.ext x fun _ _ e => e.ext x
/-! ### by_score -/
abbrev sBy : Stmt := top 24
/-- the lambda of by_score, as it stands -/
def lamE : Expr := match defBody sBy with
  | [_, .Return (some (.Call _ _ [k, _] _)) _] => k.value
  | _ => .Constant .none 0 ⟨0, 0, 0, 0⟩
def lamP : Arguments := match lamE with
  | .Lambda p _ _ _ => p
  | _ => { posonlyargs := [], args := [], vararg := none, kwonlyargs := [], kw_defaults := [], kwarg := none, defaults := [] }
def lamB : Expr := match lamE with
  | .Lambda _ b _ _ => b
  | e => e
def lamS : Scope := match lamE with
  | .Lambda _ _ sc _ => sc
  | _ => { kind := .function, names := [], isGenerator := false, isCoroutine := false }
theorem lamPair : PairLam lamP lamB lamS := ⟨⟨_, _, _, _, _, _, _, _, _, _, rfl⟩, rfl, rfl, rfl, rfl, fun _ _ _ _ _ => rfl⟩
/-- what code objects of the lambda are called -/
abbrev qLam : Str := ("by_score" : Str) ++ ".<locals>." ++ "<lambda>"
theorem zip_fst {α β : Type} : ∀ {l : List α} {m : List β}, m.length = l.length → (l.zip m).map Prod.fst = l
  | [], _, _ => rfl
  | a :: l, [], h => by cases h
  | a :: l, b :: m, h => by
    rw [List.zip_cons_cons, List.map_cons, zip_fst (by simpa using h)]
theorem zip_snd {α β : Type} : ∀ {l : List α} {m : List β}, m.length = l.length → (l.zip m).map Prod.snd = m
  | [], [], _ => rfl
  | [], _ :: _, h => by cases h
  | a :: l, [], h => by cases h
  | a :: l, b :: m, h => by
    rw [List.zip_cons_cons, List.map_cons, zip_snd (by simpa using h)]
theorem paired_zip {α β : Type} {F : α → β → Prop} : ∀ {xs : List α} {ys : List β}, Paired F xs ys → ∀ z ∈ ys.zip xs, F z.2 z.1
  | _, _, .nil, z, h => by cases h
  | _, _, .cons a r, z, h => by
    rw [List.zip_cons_cons] at h
    rcases List.mem_cons.mp h with e | h
    · rw [e]; exact a
    · exact paired_zip r z h
theorem paired_maps {α β γ : Type} {F : α → β → Prop} {f : γ → α} {g : γ → β} : ∀ {l : List γ}, (∀ z ∈ l, F (f z) (g z)) → Paired F (l.map f) (l.map g)
  | [], _ => .nil
  | z :: l, h => .cons (h z (List.mem_cons_self ..)) (paired_maps fun y hy => h y (List.mem_cons_of_mem _ hy))
def rowV (z : TM.Row × V) : RowV := ((z.1.1 : Int), (z.1.2.number : Int), z.2)
theorem rowV_ge (z y : TM.Row × V) : TM.leq z.1 y.1 = geV (rowV z) (rowV y) := by
  unfold TM.leq geV rowV
  refine congrArg (!·) (decide_eq_decide.mpr ?_)
  show (z.1.1 < y.1.1 ∨ z.1.1 = y.1.1 ∧ z.1.2.number < y.1.2.number) ↔ (((z.1.1 : Nat) : Int) < ((y.1.1 : Nat) : Int) ∨ ((z.1.1 : Nat) : Int) = ((y.1.1 : Nat) : Int) ∧ ((z.1.2.number : Nat) : Int) < ((y.1.2.number : Nat) : Int))
  omega
/-- sorted values stand for the sorted rows -/
theorem sorted_rows {F : V → TM.Row → Prop} {xs : List V} {rows : List TM.Row} (h : Paired F xs rows) :
    (((rows.zip xs).map rowV).map fun x => x.2.2) = xs ∧ Paired F ((((rows.zip xs).map rowV).mergeSort geV).map fun x => x.2.2) (rows.mergeSort TM.leq) := by
  have hl := Paired.len h
  have e1 : ((rows.zip xs).mergeSort fun z y => TM.leq z.1 y.1).map rowV = ((rows.zip xs).map rowV).mergeSort geV := List.map_mergeSort fun a _ b _ => rowV_ge a b
  have e2 : ((rows.zip xs).mergeSort fun z y => TM.leq z.1 y.1).map Prod.fst = ((rows.zip xs).map Prod.fst).mergeSort TM.leq := List.map_mergeSort fun a _ b _ => rfl
  rw [zip_fst hl] at e2
  refine ⟨?_, ?_⟩
  · rw [List.map_map]
    exact (List.map_congr_left fun z _ => rfl).trans (zip_snd hl)
  · rw [← e1, ← e2, List.map_map]
    refine paired_maps (f := (fun x : RowV => x.2.2) ∘ rowV) (g := Prod.fst) fun z hz => ?_
    exact paired_zip h z ((List.mergeSort_perm _ _).mem_iff.mp hz)
/-- nothing but a table stands at p -/
def Fresh (H : Hp) (p : Addr) : Prop := ∀ o, H p = some o → ¬ ∀ ps, o ≠ .tbl ps
theorem Fresh.of {H H' : Hp} {p : Addr} (e : ExtN H H') (h : H' p = none) : Fresh H p := fun o q n => by
  have := e p o q n
  rw [h] at this
  cases this
theorem Fresh.ne {H : Hp} {p b : Addr} {o : HO} (h : Fresh H p) (e : H b = some o) (n : ∀ ps, o ≠ .tbl ps) : b ≠ p := fun z => h o (z ▸ e) n
structure Sized (l : List Ent) (q : Ask) : Prop where
  ents : ∀ e ∈ l, e.source.length ≤ 1000
  many : l.length ≤ 1000
  ask : q.source.length ≤ 1000
def spBy (Pt : Addr) : Sp := fun vs H Q _ => ∃ (a o : Addr) (l : List Ent) (q : Ask), vs = [.ref a, .ref o] ∧ EntsAt H a l ∧ AskAt H o q ∧ Sized l q ∧ TabS H Pt qLam ∧
  ∀ H' p, ExtN H H' → TabS H' Pt qLam → Fresh H p → RowsAt H' p (TM.ranked l q) → Q (.ref p) H'
theorem scBy : FnScope ["entries", "ask", "rows", "entry"] ["entries", "ask"] (defScope sBy) := ⟨rfl, rfl, rfl, by decide +kernel, rfl, by decide +kernel, by decide +kernel⟩
section
variable {P : Program} {w : World} {K : PySem.W.Frag} {mg : Str → Option Value} {base : Heap}
theorem ok_by {f c Pt : Addr} {oc kV doc pm ct : Value} {od an : Option Addr} {osl : Array (Option Value)} (lk : K.lookup f = some ⟨oc, od, .func (PySem.W.fnOf "by_score" "by_score" (defArgs sBy) (defBody sBy) (defScope sBy) .none kV doc pm an (.ref c) ct), osl⟩)
    (hcd : PySem.W.codeIn K (.ref c) "by_score" = true) (TB : TabB base mg c Pt) (G : Glob mg) (DS : Dep P w K mg base 6 "score" ["entry", "ask"] spScore) :
    FnOk P w K mg base CX0 8 f (PySem.W.fnOf "by_score" "by_score" (defArgs sBy) (defBody sBy) (defScope sBy) .none kV doc pm an (.ref c) ct) ["entries", "ask"] (spBy Pt) := by
  refine fn_of lk hcd scBy (fun vs H Q E h => ?_) fun A outer s H vs Q E hr h => ⟨_, (pss_cons (X := (cxOf CX0 P w K mg base ["entries", "ask", "rows", "entry"] "by_score" (defScope sBy) f (.ref c) A outer s H E).nox)
      (ps_setLc (i := 2) (own := [("entry", 3)]) (g := gName 3) rfl scBy.nd rfl rfl (sw_true rfl rfl rfl (by decide +kernel)) (pi_list (pv 0)) (blkOk_by (N := ["entries", "ask", "rows", "entry"]) (sc := defScope sBy) (by decide +kernel))
        (fun _ _ _ _ _ => pg_name (i := 3) scBy.nd rfl (Or.inl rfl)) (fun _ _ _ _ _ => pts_nil)
        (fun _ _ _ _ _ => pe_tup (pa_cons (pe_dep DS hr (by rfl) (pa_cons (pv 3) (pa_cons (pv 1) pa_nil))) (pa_cons (pe_ix (r := rIxT K) ix_tup (pv 3) pe_int (fun _ _ => rfl)) (pa_cons (pe_ix (r := rIxT K) ix_tup (pv 3) pe_int (fun _ _ => rfl)) pa_nil)))))
      (pss_one (ps_ret (pe_callBK (cr_sortL (k := 6) (q := qLam) lamPair hr) (by rfl) G.sorted (by decide +kernel) (pa_cons (pv 2) pa_nil)
        (pk_cons (pe_lamE (c := c) (P := Pt) (q := qLam) (params := lamP) (body := lamB) (scope := lamS) TB rfl rfl rfl (by decide +kernel) rfl) (pk_cons pe_bl pk_nil)))))).nox, ?_⟩
  · obtain ⟨_, _, _, _, rfl, _⟩ := h
    rfl
  · obtain ⟨a, o, l, q, rfl, hL, hQ, sz, hT, k⟩ := h
    obtain ⟨xs, hxs, hp⟩ := hL.ex
    have lx := Paired.len hp
    have big := sizeBig
    refine ⟨_, rfl, a, rfl, ⟨_, SqL.of hxs⟩, fun D hD => lc_list (K := K) (a := a) (xs := xs) (fun i H' => (∀ b u, H b = some u → H' b = some u) ∧ ∃ ys : List V, H' D = some (.lst ys) ∧ Paired (RowAt (sans D H')) ys ((l.take i).map fun e => (TM.points e q, e)))
      ⟨same_new hD, [], upd_same, .nil⟩ (fun i H' _ ⟨s1, _⟩ => SqL.of (s1 _ _ hxs)) (fun i x H' hi ⟨s1, ys, hys, hrows⟩ => ?_) (fun H' ⟨s1, ys, hys, hrows⟩ => ?_)⟩
    · obtain ⟨e, he, hE⟩ := Paired.atL hp hi
      obtain ⟨t, ea, er, rfl, h1, h2, h3⟩ := hE.ex
      have eX := (⟨t, ea, er, rfl, h1, h2, h3⟩ : EntAt H (.ref t) e)
      have x1 : ExtN H H' := ExtN.of s1
      refine ⟨rfl, yes ⟨_, rfl, _, rfl, .ref t, o, e, q, rfl, eX.ext x1, hQ.ext x1, sz.ents e (List.mem_of_getElem? he), sz.ask, fun H2 s2 => ?_⟩⟩
      have s12 := fun b u z => s2 b u (s1 b u z)
      refine ⟨_, rfl, t, _, _, _, rfl, rfl, SqT.of (s12 _ _ h1), at_of (j := 0) rfl rfl, _, rfl, t, _, _, _, rfl, rfl, SqT.of (s12 _ _ h1), at_of (j := 2) rfl rfl, (by show 3 ≤ sizeLine; decide), fun p hp2 => ?_⟩
      have pD : p ≠ D := fun z => by rw [z, s2 _ _ hys] at hp2; cases hp2
      refine ⟨ys, by rw [upd_ne (Ne.symm pD)]; exact s2 _ _ hys, ?_, ?_⟩
      · have := Paired.len hrows
        rw [List.length_map, List.length_take] at this
        have := sz.many
        omega
      · have s3 : Same H2 (upd H2 p (.tup [nV (TM.points e q), nV e.number, .ref er])) := same_new hp2
        refine ⟨fun b u z => ?_, ys ++ [.ref p], upd_same, ?_⟩
        · rw [upd_ne (ne_of_none z hD)]
          exact s3 b u (s12 b u z)
        · rw [sans_upd, take_more he, List.map_append]
          refine Paired.snoc ?_ (Paired.mono (fun v x hx => hx.ext (ExtN.of (sans_mono fun b u z => s3 b u (s2 b u z)))) hrows)
          exact ⟨p, er, rfl, sans_in upd_same pD, h3.same (sans_of hD fun b u z => s3 b u (s12 b u z))⟩
    · rw [lx, List.take_length] at hrows
      have hrows' := Paired.mono (fun v x hx => hx.ext (ExtN.of sans_sub)) hrows
      obtain ⟨q1, q2⟩ := sorted_rows hrows'
      have x1 : ExtN H H' := ExtN.of s1
      refine ⟨_, rfl, hT.ext s1, fun fl c' H1 e1 t1 hc hf => ?_⟩
      have x2 := ExtN.trans x1 e1
      refine ⟨D, fl, c', _, rfl, rfl, hf, hc, by rw [q1]; exact SqL.of (e1 _ _ hys (fun _ z => by cases z)), fun x hx => ?_, fun p hp2 => ?_⟩
      · obtain ⟨z, hz, rfl⟩ := List.mem_map.mp hx
        obtain ⟨t, r, g1, g2, g3⟩ := (paired_zip hrows' z hz).ex
        exact ⟨t, .ref r, g1, e1 _ _ g2 (fun _ z => by cases z)⟩
      · have s4 : Same H1 (upd H1 p (.lst ((((((l.map fun e => (TM.points e q, e)).zip ys).map rowV)).mergeSort geV).map fun x => x.2.2))) := same_new hp2
        have x4 := ExtN.trans x2 (ExtN.of s4)
        exact k _ p x4 (t1.ext s4) (Fresh.of x2 hp2) ⟨_, upd_same, Paired.mono (fun v x hx => hx.ext (ExtN.trans e1 (ExtN.of s4))) q2⟩
end
end TW

/-! The walk: each once, found, asks in a row. -/
namespace TW
open PySem PySem.Spec PyProof.Rows L2 LamX
open Ut03 (Sent Ask House)
/-- a sentence as an item of a list -/
structure SentV (H : Hp) (v : V) (s : List Nat) : Prop where
  ex : ∃ r, v = .ref r ∧ SentAt H r s
theorem SentV.ext {H H' : Hp} {v : V} {s : List Nat} (h : SentV H v s) (e : ExtN H H') : SentV H' v s :=
  let ⟨r, h1, h2⟩ := h.ex
  ⟨r, h1, h2.ext e⟩
abbrev SentsAt := LstAt SentV
theorem sents_dp {K : PySem.W.Frag} {H : Hp} {a : Addr} {l : List (List Nat)} (h : SentsAt H a l) : Dp K H (.ref a) (.list (l.map sD)) := lst_dp h fun v s hs => by
  obtain ⟨r, rfl, h2⟩ := hs.ex
  exact sD_at h2
theorem sents_nice (l : List (List Nat)) : Nice 2 (.list (l.map sD)) := nice_list (n := 1) fun d hd => by
  obtain ⟨s, _, rfl⟩ := List.mem_map.mp hd
  exact sD_nice s
theorem any_sD (l : List (List Nat)) (s : List Nat) : ((l.map sD).any fun z => PyData.eqv z (sD s)) = decide (s ∈ l) := by
  rw [List.any_map]
  induction l with
  | nil => simp
  | cons t l ih =>
    rw [List.any_cons, ih]
    show (PyData.eqv (sD t) (sD s) || decide (s ∈ l)) = _
    rw [sD_eqv]
    by_cases h : t = s
    · subst h; simp
    · have h' : ¬ s = t := fun z => h z.symm
      simp [h, h']
theorem u65 {A : Around} {k : Nat} (hr : Room k A) : A.units + 65 < cLine := by
  have := hr.un
  omega
/-! ### each_once -/
abbrev sOnce : Stmt := top 25
def spOnce : Sp := fun vs H Q _ => ∃ (a : Addr) (rows : List TM.Row), vs = [.ref a] ∧ RowsAt H a rows ∧ rows.length ≤ 1000 ∧ ∀ H' p, Same H H' → H p = none → RowsAt H' p (TM.eachOnce rows) → Q (.ref p) H'
theorem scOnce : FnScope ["rows", "found", "seen", "row"] ["rows"] (defScope sOnce) := ⟨rfl, rfl, rfl, by decide +kernel, rfl, by decide +kernel, by decide +kernel⟩
section
variable {P : Program} {w : World} {K : PySem.W.Frag} {mg : Str → Option Value} {base : Heap}
theorem ok_once {f : Addr} {fd : FuncData} (F : Fun K "each_once" "each_once" sOnce f fd) : FnOk P w K mg base CX0 2 f fd ["rows"] spOnce := by
  refine F.ok scOnce (fun vs H Q E h => ?_) (fun cdv A outer s H vs Q E hr h => ⟨_, pss_cons (ps_set (i := 1) scOnce.nd rfl (Or.inl rfl) (pe_lst pa_nil))
    (pss_cons (ps_set (i := 2) scOnce.nd rfl (Or.inl rfl) (pe_lst pa_nil))
    (pss_cons (ps_for PassesOwn.never rfl (pi_list (pv 0)) (pg_name (i := 3) scOnce.nd rfl (Or.inl rfl))
      (pss_one (ps_if (pt_cmpR (op_notInD (u65 hr)) (pe_ix ix_tup (pv 3) pe_int (fun _ _ => rfl)) (pv 2) rfl)
        (pss_cons (ps_expr (pe_bm PySem.F.plainAttrs_list PySem.F.slot_list_append PySem.F.type_list_append mt_append (pv 2) (pa_cons (pe_ix ix_tup (pv 3) pe_int (fun _ _ => rfl)) pa_nil)))
        (pss_one (ps_expr (pe_bm PySem.F.plainAttrs_list PySem.F.slot_list_append PySem.F.type_list_append mt_append (pv 1) (pa_cons (pv 3) pa_nil))))) pss_nil)))
    (pss_one (ps_ret (pv 1))))), ?_⟩)
  · obtain ⟨_, _, rfl, _⟩ := h
    rfl
  · obtain ⟨a, rows, rfl, hR, lR, k⟩ := h
    obtain ⟨xs, hxs, hp⟩ := hR.ex
    have lx := Paired.len hp
    have big := sizeBig
    refine ⟨(by show 0 ≤ sizeLine; decide), fun p hp0 => ⟨(by show 0 ≤ sizeLine; decide), fun q hq0 => ?_⟩⟩
    have np : q ≠ p := fun z => by rw [z, upd_same] at hq0; cases hq0
    have q0 : H q = none := (same_new hp0).free hq0
    refine ⟨_, rfl, a, rfl, ⟨_, SqL.of ((same_new hq0) _ _ ((same_new hp0) _ _ hxs))⟩, for_list (K := K) (a := a) (xs := xs) (fun i σ' H' => ∃ (v : Option V) (ys zs : List V), σ' = [some (.ref a), some (.ref p), some (.ref q), v] ∧
        (∀ b u, H b = some u → H' b = some u) ∧ H' p = some (.lst ys) ∧ H' q = some (.lst zs) ∧ Paired (RowAt H) ys (TM.eachOnce (rows.take i)) ∧ Paired (SentV H) zs ((TM.eachOnce (rows.take i)).map fun x => x.2.target))
      ⟨none, [], [], rfl, fun b u e => (same_new hq0) _ _ ((same_new hp0) _ _ e), by rw [upd_ne (Ne.symm np), upd_same], upd_same, .nil, .nil⟩ (fun i σ' H' _ ⟨_, _, _, _, s1, _⟩ => SqL.of (s1 _ _ hxs)) ?_ ?_⟩
    · rintro i x σ' H' hi ⟨v, ys, zs, rfl, s1, hy, hz, py, pz⟩
      obtain ⟨r, hr', hr⟩ := Paired.atL hp hi
      obtain ⟨t, tr, rfl, h1, h2⟩ := hr.ex
      have step := TM.eachOnce_more hr'
      have x1 : ExtN H H' := ExtN.of s1
      have ly := Paired.len py
      have lz := Paired.len pz
      have lo := TM.eachOnce_len (rows.take i)
      rw [List.length_take] at lo
      rw [List.length_map] at lz
      refine ⟨_, rfl, t, _, _, _, rfl, rfl, SqT.of (s1 _ _ h1), at_of (j := 2) rfl rfl, _, rfl, sD r.2.target, _, sD_at (h2.ext x1), sents_dp ⟨zs, hz, Paired.mono (fun v s hs => hs.ext x1) pz⟩, (sD_nice _).shaped (by decide), (sents_nice _).shaped (by decide), _, rfl, ?_⟩
      rw [any_sD]
      have eb : ((TM.eachOnce (rows.take i)).any fun y => y.2.target == r.2.target) = decide (r.2.target ∈ (TM.eachOnce (rows.take i)).map fun x => x.2.target) := by
        rw [Bool.eq_iff_iff, List.any_eq_true, decide_eq_true_iff, List.mem_map]
        exact ⟨fun ⟨y, hy, e⟩ => ⟨y, hy, eq_of_beq e⟩, fun ⟨y, hy, e⟩ => ⟨y, hy, by rw [e]; exact beq_self_eq_true _⟩⟩
      by_cases c : r.2.target ∈ (TM.eachOnce (rows.take i)).map fun x => x.2.target
      · rw [decide_eq_true c]
        refine iteF ⟨some (.ref t), ys, zs, rfl, s1, hy, hz, ?_⟩
        have e : TM.eachOnce (rows.take (i + 1)) = TM.eachOnce (rows.take i) := by
          rw [step]
          unfold TM.onceTurn
          rw [eb, decide_eq_true c, if_pos rfl]
        rw [e]
        exact ⟨py, pz⟩
      · rw [decide_eq_false c]
        have e : TM.eachOnce (rows.take (i + 1)) = TM.eachOnce (rows.take i) ++ [r] := by
          rw [step]
          unfold TM.onceTurn
          rw [eb, decide_eq_false c, if_neg (by decide)]
        refine iteT ⟨_, rfl, .inl ⟨rfl, _, SqL.of hz⟩, _, rfl, t, _, _, _, rfl, rfl, SqT.of (s1 _ _ h1), at_of (j := 2) rfl rfl, q, zs, _, rfl, rfl, hz, by omega, ?_⟩
        have hy2 : upd H' q (.lst (zs ++ [V.ref tr])) p = some (.lst ys) := by rw [upd_ne (Ne.symm np)]; exact hy
        refine ⟨_, rfl, .inl ⟨rfl, _, SqL.of hy2⟩, _, rfl, p, ys, _, rfl, rfl, hy2, by omega, ?_⟩
        refine ⟨some (.ref t), ys ++ [.ref t], zs ++ [.ref tr], rfl, fun b u z => ?_, upd_same, by rw [upd_ne np, upd_same], ?_, ?_⟩
        · rw [upd_ne (ne_of_none z hp0), upd_ne (ne_of_none z q0)]
          exact s1 b u z
        · rw [e]
          exact Paired.snoc ⟨t, tr, rfl, h1, h2⟩ py
        · rw [e, List.map_append]
          exact Paired.snoc ⟨tr, rfl, h2⟩ pz
    · rintro σ' H' ⟨v, ys, zs, rfl, s1, hy, hz, py, pz⟩
      rw [lx, List.take_length] at py
      exact ⟨_, rfl, k H' p s1 hp0 ⟨ys, hy, Paired.mono (fun v x hx => hx.ext (ExtN.of s1)) py⟩⟩
end
/-! ### found_ones -/
abbrev sFound : Stmt := top 26
def spFound (Pt : Addr) : Sp := fun vs H Q _ => ∃ (a o : Addr) (l : List Ent) (q : Ask) (least : Nat), vs = [.ref a, .ref o, nV least] ∧ EntsAt H a l ∧ AskAt H o q ∧ Sized l q ∧ TabS H Pt qLam ∧
  ∀ H' p, ExtN H H' → TabS H' Pt qLam → Fresh H p → RowsAt H' p (TM.foundM l q least) → Q (.ref p) H'
theorem scFound : FnScope ["entries", "ask", "least", "row"] ["entries", "ask", "least"] (defScope sFound) := ⟨rfl, rfl, rfl, by decide +kernel, rfl, by decide +kernel, by decide +kernel⟩
section
variable {P : Program} {w : World} {K : PySem.W.Frag} {mg : Str → Option Value} {base : Heap}
theorem ok_found {f Pt : Addr} {fd : FuncData} (F : Fun K "found_ones" "found_ones" sFound f fd) (DB : Dep P w K mg base 8 "by_score" ["entries", "ask"] (spBy Pt)) (DO : Dep P w K mg base 2 "each_once" ["rows"] spOnce) :
    FnOk P w K mg base CX0 9 f fd ["entries", "ask", "least"] (spFound Pt) := by
  refine F.ok scFound (fun vs H Q E h => ?_) (fun cdv A outer s H vs Q E hr h => ⟨_, pss_one (ps_ret (pe_dep DO hr rfl (pa_cons (pe_lc (own := [("row", 3)]) (g := gName 3) rfl scFound.nd (pi_list (pe_dep DB hr rfl (pa_cons (pv 0) (pa_cons (pv 1) pa_nil)))) (blkOk_by (N := ["entries", "ask", "least", "row"]) (sc := defScope sFound) (by decide +kernel))
      (fun _ _ _ _ _ => pg_name (i := 3) scFound.nd rfl (Or.inl rfl)) (fun _ _ _ _ _ => pts_one (pt_cmpR op_ge (pe_ix (r := rIxT K) ix_tup (pv 3) pe_int (fun _ _ => rfl)) (pv 2) (nomark _))) (fun _ _ _ _ _ => pv 3)) pa_nil))), ?_⟩)
  · obtain ⟨_, _, _, _, _, rfl, _⟩ := h
    rfl
  · obtain ⟨a, o, l, q, least, rfl, hL, hQ, sz, hT, k⟩ := h
    have big := sizeBig
    refine ⟨_, rfl, _, rfl, a, o, l, q, rfl, hL, hQ, sz, hT, fun H1 p x1 t1 fr hR => ?_⟩
    obtain ⟨xs, hxs, hp⟩ := hR.ex
    have lx := Paired.len hp
    have lr := TM.ranked_len l q
    refine ⟨p, rfl, ⟨_, SqL.of hxs⟩, fun D hD => lc_list (K := K) (a := p) (xs := xs) (fun i H' => ∃ ys : List V, H' = upd H1 D (.lst ys) ∧ Paired (RowAt H1) ys (((TM.ranked l q).take i).filter fun x => decide (least ≤ x.1)))
      ⟨[], rfl, .nil⟩ (fun i H' _ ⟨ys, e, _⟩ => by rw [e]; exact SqL.of (same_new hD _ _ hxs)) (fun i x H' hi ⟨ys, e, hy⟩ => ?_) (fun H' ⟨ys, e, hy⟩ => ?_)⟩
    · obtain ⟨r, hr', hr⟩ := Paired.atL hp hi
      obtain ⟨t, tr, rfl, h1, h2⟩ := hr.ex
      have s1 : Same H1 H' := by rw [e]; exact same_new hD
      have lf := List.length_filter_le (fun x : TM.Row => decide (least ≤ x.1)) ((TM.ranked l q).take i)
      rw [List.length_take] at lf
      have ly := Paired.len hy
      have many := sz.many
      refine ⟨rfl, _, rfl, t, _, _, _, rfl, rfl, SqT.of (s1 _ _ h1), at_of (j := 0) rfl rfl, _, rfl, _, _, rfl, rfl, _, rfl, ?_⟩
      rw [take_more hr', List.filter_append]
      by_cases c : least ≤ r.1
      · rw [decide_eq_true (show ((least : Nat) : Int) ≤ ((r.1 : Nat) : Int) by omega)]
        refine iteT ⟨_, rfl, ys, by rw [e]; exact upd_same, by omega, ys ++ [.ref t], by rw [e, upd_upd], ?_⟩
        have ef : ([r].filter fun x => decide (least ≤ x.1)) = [r] := by simp [c]
        rw [ef]
        exact Paired.snoc ⟨t, tr, rfl, h1, h2⟩ hy
      · rw [decide_eq_false (show ¬ ((least : Nat) : Int) ≤ ((r.1 : Nat) : Int) by omega)]
        refine iteF ⟨ys, e, ?_⟩
        have ef : ([r].filter fun x => decide (least ≤ x.1)) = [] := by simp [c]
        rw [ef, List.append_nil]
        exact hy
    · rw [lx, List.take_length] at hy
      have s1 : Same H1 H' := by rw [e]; exact same_new hD
      have lf := List.length_filter_le (fun x : TM.Row => decide (least ≤ x.1)) (TM.ranked l q)
      have many := sz.many
      refine ⟨D, _, rfl, ⟨ys, by rw [e]; exact upd_same, Paired.mono (fun v x hx => hx.ext (ExtN.of s1)) hy⟩, by omega, fun H2 p2 s2 f2 hR2 => ?_⟩
      have x2 := ExtN.trans x1 (ExtN.of (s1.trans s2))
      exact k H2 p2 x2 (t1.ext (s1.trans s2)) (Fresh.of (ExtN.trans x1 (ExtN.of s1)) f2) hR2
end
/-! ### asks_in -/
theorem cut_is (xs : List V) (a b : Nat) (hab : a ≤ b) (hb : b ≤ xs.length) : cutV xs (some (a : Int)) (some (b : Int)) = (xs.drop a).take (b - a) := by
  unfold cutV
  rw [HT.sIx_nat, HT.sIx_nat, Nat.min_eq_left hb, Nat.min_eq_left (Nat.le_trans hab hb)]
theorem askIn_drop {r : List Nat} {pl : Nat} {q : Ask} {l' : List Nat} (h : Ut03Neutral.askIn (r.drop pl) = some (q, l')) :
    pl + 4 + r.getD (pl + 3) 0 ≤ r.length ∧ q = ⟨(r.drop (pl + 4)).take (r.getD (pl + 3) 0), r.getD pl 0, r.getD (pl + 1) 0, r.getD (pl + 2) 0⟩ ∧ l' = r.drop (pl + 4 + r.getD (pl + 3) 0) := by
  cases h0 : r.drop pl with
  | nil => rw [h0] at h; cases h
  | cons a r1 =>
    obtain ⟨l0, e0, d0⟩ := TM.drop_get h0
    cases r1 with
    | nil => rw [h0] at h; cases h
    | cons b r2 =>
      obtain ⟨l1, e1, d1⟩ := TM.drop_get d0.symm
      cases r2 with
      | nil => rw [h0] at h; cases h
      | cons c r3 =>
        obtain ⟨l2, e2, d2⟩ := TM.drop_get d1.symm
        cases r3 with
        | nil => rw [h0] at h; cases h
        | cons n r4 =>
          obtain ⟨l3, e3, d3⟩ := TM.drop_get d2.symm
          rw [h0] at h
          have e4 : Ut03Neutral.askIn (a :: b :: c :: n :: r4) = (if r4.length < n then none else some (r4.take n, r4.drop n)).map fun x => ((⟨x.1, a, b, c⟩ : Ask), x.2) := rfl
          rw [e4] at h
          rw [e0, e1, e2, e3]
          have e5 : r4 = r.drop (pl + 4) := d3
          by_cases hn : r4.length < n
          · rw [if_pos hn] at h; cases h
          · rw [if_neg hn] at h
            have e6 := Option.some.inj h
            injection e6 with e7 e8
            have l5 : r4.length = r.length - (pl + 4) := by rw [e5, List.length_drop]
            refine ⟨by omega, ?_, ?_⟩
            · rw [← e7, e5]
            · rw [← e8, e5, List.drop_drop]
abbrev sAsks : Stmt := top 27
structure AskV (H : Hp) (v : V) (q : Ask) : Prop where
  ex : ∃ t, v = .ref t ∧ AskAt H t q
theorem AskV.ext {H H' : Hp} {v : V} {q : Ask} (h : AskV H v q) (e : ExtN H H') : AskV H' v q :=
  let ⟨r, h1, h2⟩ := h.ex
  ⟨r, h1, h2.ext e⟩
abbrev AsksAt := LstAt AskV
def spAsks : Sp := fun vs H Q _ => ∃ (n : Nat) (a : Addr) (r : List Nat) (qs : List Ask) (rest : List Nat), vs = [nV n, .ref a] ∧ SentAt H a r ∧ n ≤ 1000 ∧ Ut03Neutral.asksIn n r = some (qs, rest) ∧ ∀ H' p, Same H H' → H p = none → AsksAt H' p qs → Q (.ref p) H'
theorem scAsks : FnScope ["many", "numbers", "found", "place", "turn", "words", "sentence"] ["many", "numbers"] (defScope sAsks) := ⟨rfl, rfl, rfl, by decide +kernel, rfl, by decide +kernel, by decide +kernel⟩
section
variable {P : Program} {w : World} {K : PySem.W.Frag} {mg : Str → Option Value} {base : Heap}
theorem ok_asks {f : Addr} {fd : FuncData} (F : Fun K "asks_in" "asks_in" sAsks f fd) (G : Glob mg) : FnOk P w K mg base CX0 1 f fd ["many", "numbers"] spAsks := by
  refine F.ok scAsks (fun vs H Q E h => ?_) (fun cdv A outer s H vs Q E hr h => ⟨_, pss_cons (ps_set (i := 2) scAsks.nd rfl (Or.inl rfl) (pe_lst pa_nil))
    (pss_cons (ps_set (i := 3) scAsks.nd rfl (Or.inl rfl) pe_int)
    (pss_cons (ps_for PassesOwn.never rfl (pi_range1 rfl G.range (pa_cons (pv 0) pa_nil)) (pg_name (i := 4) scAsks.nd rfl (Or.inl rfl))
      (pss_cons (ps_set (i := 5) scAsks.nd rfl (Or.inl rfl) (pe_ix ix_list (pv 1) (pe_op op_add (pv 3) pe_int) (fun _ _ => rfl)))
      (pss_cons (ps_set (i := 6) scAsks.nd rfl (Or.inl rfl) (pe_slice sl_list (pv 1) (po_some (pe_op op_add (pv 3) pe_int)) (po_some (pe_op op_add (pe_op op_add (pv 3) pe_int) (pv 5)))))
      (pss_cons (ps_expr (pe_bm PySem.F.plainAttrs_list PySem.F.slot_list_append PySem.F.type_list_append mt_append (pv 2) (pa_cons (pe_tup (pa_cons (pe_ix ix_list (pv 1) (pv 3) (fun _ _ => rfl)) (pa_cons (pe_ix ix_list (pv 1) (pe_op op_add (pv 3) pe_int) (fun _ _ => rfl)) (pa_cons (pe_ix ix_list (pv 1) (pe_op op_add (pv 3) pe_int) (fun _ _ => rfl)) (pa_cons (pv 6) pa_nil))))) pa_nil)))
      (pss_one (ps_set (i := 3) scAsks.nd rfl (Or.inl rfl) (pe_op op_add (pe_op op_add (pv 3) pe_int) (pv 5))))))))
    (pss_one (ps_ret (pv 2))))), ?_⟩)
  · obtain ⟨_, _, _, _, _, rfl, _⟩ := h
    rfl
  · obtain ⟨n, a, r, qs, rest, rfl, hA, ln, hI, k⟩ := h
    have big := sizeBig
    have lr := hA.len
    refine ⟨(by show 0 ≤ sizeLine; decide), fun p hp0 => ?_⟩
    refine ⟨_, rfl, _, rfl, by omega, by omega, ?_⟩
    rw [show ((n : Nat) : Int).toNat = n by omega]
    refine for_range (lo := 0) (n := n) (fun i σ' H' => ∃ (v4 v5 v6 : Option V) (pl : Nat) (ys : List V) (dn todo : List Ask), σ' = [some (nV n), some (.ref a), some (.ref p), some (nV pl), v4, v5, v6] ∧ (∀ b u, H b = some u → H' b = some u) ∧ H' p = some (.lst ys) ∧
        Paired (AskV (sans p H')) ys dn ∧ dn.length = i ∧ Ut03Neutral.asksIn (n - i) (r.drop pl) = some (todo, rest) ∧ dn ++ todo = qs)
      ⟨none, none, none, 0, [], [], qs, rfl, same_new hp0, upd_same, .nil, rfl, hI, rfl⟩ ?_ ?_
    · rintro i σ' H' hi ⟨v4, v5, v6, pl, ys, dn, todo, rfl, s1, hy, py, ld, hT, hq⟩
      obtain ⟨m, hm⟩ : ∃ m, n - i = m + 1 := ⟨n - i - 1, by omega⟩
      rw [hm] at hT
      have eT : Ut03Neutral.asksIn (m + 1) (r.drop pl) = (Ut03Neutral.askIn (r.drop pl)).bind fun x => (Ut03Neutral.asksIn m x.2).map fun y => (x.1 :: y.1, y.2) := rfl
      rw [eT] at hT
      cases hk : Ut03Neutral.askIn (r.drop pl) with
      | none => rw [hk] at hT; cases hT
      | some ql =>
        obtain ⟨q, l'⟩ := ql
        rw [hk] at hT
        cases hk2 : Ut03Neutral.asksIn m l' with
        | none =>
          have : (Ut03Neutral.asksIn m l').map (fun y => (q :: y.1, y.2)) = some (todo, rest) := hT
          rw [hk2] at this
          cases this
        | some yr =>
          obtain ⟨td, rs⟩ := yr
          have e : (Ut03Neutral.asksIn m l').map (fun y => (q :: y.1, y.2)) = some (todo, rest) := hT
          rw [hk2] at e
          have e2 := Option.some.inj e
          injection e2 with e3 e4
          obtain ⟨b1, b2, b3⟩ := askIn_drop hk
          have sA := (hA.same s1).sq (K := K)
          have at3 : atI (r.map nV) (((pl : Nat) : Int) + 3) = some (nV (r.getD (pl + 3) 0)) := at_of (j := pl + 3) (by omega) (nV_at (get_in (by omega)))
          have at0 : atI (r.map nV) ((pl : Nat) : Int) = some (nV (r.getD pl 0)) := at_of (j := pl) (by omega) (nV_at (get_in (by omega)))
          have at1 : atI (r.map nV) (((pl : Nat) : Int) + 1) = some (nV (r.getD (pl + 1) 0)) := at_of (j := pl + 1) (by omega) (nV_at (get_in (by omega)))
          have at2 : atI (r.map nV) (((pl : Nat) : Int) + 2) = some (nV (r.getD (pl + 2) 0)) := at_of (j := pl + 2) (by omega) (nV_at (get_in (by omega)))
          generalize hw : r.getD (pl + 3) 0 = wd at at3 b1 b2 b3
          refine ⟨_, rfl, _, rfl, _, _, rfl, rfl, a, _, _, _, rfl, rfl, sA, at3, _, rfl, _, rfl, _, _, rfl, rfl, _, rfl, _, rfl, _, _, rfl, rfl, _, rfl, _, _, rfl, rfl, _, rfl, a, _, rfl, sA, fun t ht => ?_⟩
          have s2 : Same H' (upd H' t (.lst (cutV (r.map nV) (some (((pl : Nat) : Int) + 4)) (some (((pl : Nat) : Int) + 4 + ((wd : Nat) : Int)))))) := same_new ht
          have ecut : cutV (r.map nV) (some (((pl : Nat) : Int) + 4)) (some (((pl : Nat) : Int) + 4 + ((wd : Nat) : Int))) = ((r.drop (pl + 4)).take wd).map nV := by
            rw [show ((pl : Nat) : Int) + 4 = ((pl + 4 : Nat) : Int) by omega, show ((pl + 4 : Nat) : Int) + ((wd : Nat) : Int) = ((pl + 4 + wd : Nat) : Int) by omega, cut_is _ _ _ (by omega) (by rw [List.length_map]; omega), show pl + 4 + wd - (pl + 4) = wd by omega, List.map_take, List.map_drop]
          rw [ecut] at s2 ⊢
          have tp : t ≠ p := fun z => by rw [z, hy] at ht; cases ht
          have sA2 := ((hA.same s1).same s2).sq (K := K)
          have hy2 : upd H' t (.lst (((r.drop (pl + 4)).take wd).map nV)) p = some (.lst ys) := s2 _ _ hy
          refine ⟨_, rfl, .inl ⟨rfl, _, SqL.of hy2⟩, _, rfl, _, rfl, a, _, _, _, rfl, rfl, sA2, at0, _, rfl, _, rfl, _, _, rfl, rfl, a, _, _, _, rfl, rfl, sA2, at1, _, rfl, _, rfl, _, _, rfl, rfl, a, _, _, _, rfl, rfl, sA2, at2, _, rfl, (by show 4 ≤ sizeLine; decide), fun u hu => ?_⟩
          have s3 : Same (upd H' t (.lst (((r.drop (pl + 4)).take wd).map nV))) (upd (upd H' t (.lst (((r.drop (pl + 4)).take wd).map nV))) u (.tup [nV (r.getD pl 0), nV (r.getD (pl + 1) 0), nV (r.getD (pl + 2) 0), .ref t])) := same_new hu
          have up : u ≠ p := fun z => by rw [z, hy2] at hu; cases hu
          have ut : t ≠ u := fun z => by rw [← z, upd_same] at hu; cases hu
          have ly := Paired.len py
          refine ⟨p, ys, _, rfl, rfl, s3 _ _ hy2, by omega, _, rfl, _, _, rfl, rfl, _, rfl, _, _, rfl, rfl, ?_⟩
          refine ⟨some (V.int (0 + (i : Nat))), some (nV wd), some (.ref t), pl + 4 + wd, ys ++ [.ref u], dn ++ [q], td, ?_, fun b o z => ?_, upd_same, ?_, by rw [List.length_append, ld]; rfl, ?_, ?_⟩
          · show _ = [some (nV n), some (.ref a), some (.ref p), some (V.int ((pl + 4 + wd : Nat) : Int)), some (V.int (0 + (i : Nat))), some (nV wd), some (.ref t)]
            rw [show ((pl + 4 + wd : Nat) : Int) = ((pl : Nat) : Int) + 4 + ((wd : Nat) : Int) by omega]
            rfl
          · rw [upd_ne (ne_of_none z hp0)]
            exact s3 _ _ (s2 _ _ (s1 b o z))
          · rw [sans_upd]
            refine Paired.snoc ?_ (Paired.mono (fun v x hx => hx.ext (ExtN.of (sans_mono (s2.trans s3)))) py)
            refine ⟨u, rfl, t, ?_, ?_, ?_⟩
            · rw [b2]
              exact sans_in upd_same up
            · rw [b2]
              exact sans_in (s3 _ _ upd_same) tp
            · rw [b2]
              show ((r.drop (pl + 4)).take wd).length ≤ 100000
              rw [List.length_take]
              omega
          · rw [show n - (i + 1) = m by omega, ← b3, hk2]
            exact congrArg (fun z => some (td, z)) e4
          · rw [← hq, ← e3, List.append_assoc]
            rfl
    · rintro σ' H' ⟨v4, v5, v6, pl, ys, dn, todo, rfl, s1, hy, py, ld, hT, hq⟩
      have e0 : todo = [] := by
        rw [Nat.sub_self] at hT
        have e := Option.some.inj hT
        injection e with e1 _
        exact e1.symm
      rw [e0, List.append_nil] at hq
      rw [hq] at py
      exact ⟨_, rfl, k H' p s1 hp0 ⟨ys, hy, Paired.mono (fun v x hx => hx.ext (ExtN.of sans_sub)) py⟩⟩
end
end TW

/-! The walk: the memory and its methods. -/
namespace TW
open PySem PySem.Spec PyProof.Rows L2 LamX
open Ut03 (Sent Ask House)
/-! ### the memory in the heap -/
def mF (e : Addr) (n : Nat) (p : Addr) : List (Str × V) := [("entries", .ref e), ("following", nV n), ("past", .ref p)]
/-- all but the memory's own two objects, one object more and the tables -/
def core (zf m p : Addr) (H : Hp) : Hp := fun b => if b = m ∨ b = p ∨ b = zf then none else match H b with
  | some (.tbl _) => none
  | o => o
theorem core_sub {zf m p : Addr} {H : Hp} : Same (core zf m p H) H := fun b o e => by
  unfold core at e
  by_cases h : b = m ∨ b = p ∨ b = zf
  · rw [if_pos h] at e; cases e
  · rw [if_neg h] at e
    split at e
    · cases e
    · exact e
theorem core_tbl {zf m p : Addr} {H : Hp} {b : Addr} (ps : Array Value) : core zf m p H b ≠ some (.tbl ps) := fun e => by
  unfold core at e
  by_cases h : b = m ∨ b = p ∨ b = zf
  · rw [if_pos h] at e; cases e
  · rw [if_neg h] at e
    split at e
    · cases e
    · rename_i h2
      exact h2 ps e
theorem core_ne {zf m p : Addr} {H : Hp} {b : Addr} {o : HO} (e : core zf m p H b = some o) : b ≠ m ∧ b ≠ p ∧ b ≠ zf := by
  unfold core at e
  by_cases h : b = m ∨ b = p ∨ b = zf
  · rw [if_pos h] at e; cases e
  · exact ⟨fun z => h (.inl z), fun z => h (.inr (.inl z)), fun z => h (.inr (.inr z))⟩
theorem core_in {zf m p : Addr} {H : Hp} {b : Addr} {o : HO} (e : H b = some o) (h1 : b ≠ m) (h2 : b ≠ p) (h3 : b ≠ zf) (n : ∀ ps, o ≠ .tbl ps) : core zf m p H b = some o := by
  unfold core
  rw [if_neg (fun z => z.elim h1 fun z => z.elim h2 h3), e]
  cases o with
  | tbl ps => exact absurd rfl (n ps)
  | _ => rfl
/-- all that stood stands but the memory's own two objects; tables may have grown -/
def KeepM (m p : Addr) (H H' : Hp) : Prop := ∀ b o, H b = some o → b ≠ m → b ≠ p → (∀ ps, o ≠ .tbl ps) → H' b = some o
theorem KeepM.of {m p : Addr} {H H' : Hp} (e : ExtN H H') : KeepM m p H H' := fun b o q _ _ n => e b o q n
theorem KeepM.trans {m p : Addr} {H H1 H2 : Hp} (a : KeepM m p H H1) (b : KeepM m p H1 H2) : KeepM m p H H2 := fun c o q h1 h2 n => b c o (a c o q h1 h2 n) h1 h2 n
theorem core_mono {zf m p : Addr} {H H' : Hp} (k : KeepM m p H H') : Same (core zf m p H) (core zf m p H') := fun b o e => by
  have n : ∀ ps, o ≠ .tbl ps := fun ps z => core_tbl ps (z ▸ e)
  have h := core_ne e
  exact core_in (k b o (core_sub b o e) h.1 h.2.1 n) h.1 h.2.1 h.2.2 n
structure EntsV (H : Hp) (v : V) (l : List Ent) : Prop where
  ex : ∃ a, v = .ref a ∧ EntsAt H a l
theorem EntsV.ext {H H' : Hp} {v : V} {l : List Ent} (h : EntsV H v l) (e : ExtN H H') : EntsV H' v l :=
  let ⟨r, h1, h2⟩ := h.ex
  ⟨r, h1, entsExt h2 e⟩
structure MemAt (zf C : Addr) (H : Hp) (m p : Addr) (g : House) : Prop where
  zz : zf ≠ p ∧ ∃ o, H zf = some o ∧ ∀ ps, o ≠ .tbl ps
  ex : ∃ (dx e : Addr) (ps : List V), H m = some (.ins C dx (mF e g.given p)) ∧ H p = some (.lst ps) ∧ EntsAt (core zf m p H) e g.entries ∧ Paired (EntsV (core zf m p H)) ps.reverse g.old
theorem MemAt.ext {zf C : Addr} {H H' : Hp} {m p : Addr} {g : House} (h : MemAt zf C H m p g) (x : ExtN H H') : MemAt zf C H' m p g := by
  obtain ⟨dx, e, ps, h1, h2, h3, h4⟩ := h.ex
  have c := ExtN.of (core_mono (zf := zf) (m := m) (p := p) (KeepM.of x))
  obtain ⟨z1, o, z2, z3⟩ := h.zz
  exact ⟨⟨z1, o, x _ _ z2 z3, z3⟩, dx, e, ps, x _ _ h1 (fun _ z => by cases z), x _ _ h2 (fun _ z => by cases z), entsExt h3 c, Paired.mono (fun v l hl => hl.ext c) h4⟩
/-- the object more is still there -/
theorem MemAt.zk {zf C : Addr} {H H' : Hp} {m p : Addr} {g : House} {dx : Addr} {fs : List (Str × V)} (h : MemAt zf C H m p g) (k : ∀ b o, H b = some o → b ≠ m → b ≠ p → H' b = some o) (hm : H' m = some (.ins C dx fs)) : zf ≠ p ∧ ∃ o, H' zf = some o ∧ ∀ ps, o ≠ .tbl ps := by
  obtain ⟨z1, o, z2, z3⟩ := h.zz
  by_cases e : zf = m
  · exact ⟨z1, _, by rw [e]; exact hm, fun _ z => by cases z⟩
  · exact ⟨z1, o, k _ _ z2 e z1, z3⟩
theorem MemAt.zn {zf C : Addr} {H : Hp} {m p a : Addr} {g : House} (h : MemAt zf C H m p g) (e : H a = none) : a ≠ zf := by
  obtain ⟨z1, o, z2, z3⟩ := h.zz
  exact (ne_of_none z2 e).symm
theorem MemAt.ne {zf C : Addr} {H : Hp} {m p : Addr} {g : House} (h : MemAt zf C H m p g) : m ≠ p := by
  obtain ⟨dx, e, ps, h1, h2, _⟩ := h.ex
  exact ne_of h1 h2 (by intro z; cases z)
/-! ### the class -/
structure ClsM (K : PySem.W.Frag) (C : Addr) : Prop where
  cl : Cls K C
  nE : NoAttr K C "entries"
  nF : NoAttr K C "following"
  nP : NoAttr K C "past"
theorem lk_here {k : Str} {v : V} {r : List (Str × V)} : List.lookup k ((k, v) :: r) = some v := by
  have e : (k == k) = true := beq_self_eq_true k
  simp only [List.lookup, e]
theorem lk_past {k g : Str} {v : V} {r : List (Str × V)} (h : (k == g) = false) : List.lookup k ((g, v) :: r) = List.lookup k r := by
  simp only [List.lookup, h]
theorem put_here {f : Str} {v x : V} {r : List (Str × V)} : putF f v ((f, x) :: r) = (f, v) :: r := if_pos rfl
theorem put_past {f g : Str} {v x : V} {r : List (Str × V)} (h : ¬ g = f) : putF f v ((g, x) :: r) = (g, x) :: putF f v r := if_neg h
theorem mF_e (e : Addr) (n : Nat) (p : Addr) : (mF e n p).lookup ("entries" : Str) = some (.ref e) := lk_here
theorem mF_f (e : Addr) (n : Nat) (p : Addr) : (mF e n p).lookup ("following" : Str) = some (nV n) := (lk_past (by decide +kernel)).trans lk_here
theorem mF_p (e : Addr) (n : Nat) (p : Addr) : (mF e n p).lookup ("past" : Str) = some (.ref p) := (lk_past (by decide +kernel)).trans ((lk_past (by decide +kernel)).trans lk_here)
theorem mF_none {x : Str} (h1 : (x == ("entries" : Str)) = false) (h2 : (x == ("following" : Str)) = false) (h3 : (x == ("past" : Str)) = false) (e : Addr) (n : Nat) (p : Addr) : (mF e n p).lookup x = none := (lk_past h1).trans ((lk_past h2).trans ((lk_past h3).trans rfl))
theorem mF_putE (e e' : Addr) (n : Nat) (p : Addr) : putF "entries" (.ref e') (mF e n p) = mF e' n p := put_here
theorem mF_putF (e : Addr) (n n' : Nat) (p : Addr) : putF "following" (nV n') (mF e n p) = mF e n' p := (put_past (by decide +kernel)).trans (congrArg _ put_here)
theorem mF_new (e : Addr) (n : Nat) (p : Addr) : putF "past" (.ref p) (putF "following" (nV n) (putF "entries" (.ref e) [])) = mF e n p := by
  have e1 : putF "following" (nV n) [(("entries" : Str), V.ref e)] = [(("entries" : Str), V.ref e), (("following" : Str), nV n)] := (put_past (by decide +kernel)).trans rfl
  have e0 : putF "entries" (.ref e) [] = [(("entries" : Str), V.ref e)] := rfl
  rw [e0, e1]
  exact (put_past (by decide +kernel)).trans (congrArg _ ((put_past (by decide +kernel)).trans rfl))
abbrev sCls : Stmt := top 51
/-- a method that keeps its promise -/
structure DepM (P : Program) (w : World) (K : PySem.W.Frag) (mg : Str → Option Value) (base : Heap) (k : Nat) (C : Addr) (m : Str) (ps : List Str) (sp : Sp) : Prop where
  ex : ∃ (f : Addr) (fd : FuncData), FnOk P w K mg base CX0 k f fd ps sp ∧ Meth K C m f ∧ Binds K fd ps []
def tDepM (C : Addr) (m : Str) (sp : Sp) (ta : TE) (t : TA) : TE := fun σ H Q => ta σ H fun x H1 => ∃ a dx fs, x = .ref a ∧ H1 a = some (.ins C dx fs) ∧ fs.lookup m = none ∧ t σ H1 fun vs H2 => sp (x :: vs) H2 Q E0
section
variable {X : Cx} {o e : Expr} {es : List Expr} {m : Str} {pos apos : Pos} {C : Addr}
theorem pe_dm {pl : Sem Bool} {k j : Nat} {ps : List Str} {sp : Sp} {ta : TE} {t : TA} (he : PE X o ta) (c : Cls X.K C) (D : DepM X.prog X.w X.K X.mg X.base k C m ps sp) (hr : Room j X.A) (ha : PA X (e :: es) t) (hj : k ≤ j := by decide)
    (hst : starEach (e :: es) X.env = (false, eval e X.env) :: starEach es X.env := by rfl) (hpl : (backTo pos (starEach es X.env)).any (·.1) = false := by rfl)
    (ht : eval (.Call (.Attribute o m apos) (e :: es) [] pos) X.env = (do
      let ov ← eval o X.env
      standAt apos.atName
      let (f, first) ← holding [ov] (getMethod ov m pl)
      callWith pos f first (backTo pos (starEach (e :: es) X.env)) (backToKw pos (keywordEach [] X.env))) := by rfl) :
    PE X (.Call (.Attribute o m apos) (e :: es) [] pos) (tDepM C m sp ta t) := by
  obtain ⟨f, fd, F, hm, hb⟩ := D.ex
  refine ⟨fun pins s σ H Q I h => ?_⟩
  refine (pe_meth (pl := pl) (dvs := []) (E := E0) he c hm F (hr.mono hj) hb .nil pass0 ha hst hpl ht).run pins s σ H Q I ?_
  have e0 : ∀ x : V, (fun (vs : List V) (H1 : Hp) => sp (x :: (vs ++ [])) H1 Q E0) = fun vs H1 => sp (x :: vs) H1 Q E0 := fun x => by
    funext vs H1
    rw [List.append_nil]
  show ta σ H fun x H1 => ∃ a dx fs, x = .ref a ∧ H1 a = some (.ins C dx fs) ∧ fs.lookup m = none ∧ t σ H1 fun vs H2 => sp (x :: (vs ++ [])) H2 Q E0
  simp only [e0]
  exact h
theorem pe_dm0 {pl : Sem Bool} {k j : Nat} {ps : List Str} {sp : Sp} {ta : TE} (he : PE X o ta) (c : Cls X.K C) (D : DepM X.prog X.w X.K X.mg X.base k C m ps sp) (hr : Room j X.A) (hj : k ≤ j := by decide)
    (ht : eval (.Call (.Attribute o m apos) [] [] pos) X.env = (do
      let ov ← eval o X.env
      standAt apos.atName
      let (f, first) ← holding [ov] (getMethod ov m pl)
      callWith pos f first (backTo pos (starEach [] X.env)) (backToKw pos (keywordEach [] X.env))) := by rfl) :
    PE X (.Call (.Attribute o m apos) [] [] pos) (tDepM C m sp ta tNil) := by
  obtain ⟨f, fd, F, hm, hb⟩ := D.ex
  refine ⟨fun pins s σ H Q I h => ?_⟩
  exact (pe_meth0 (pl := pl) (dvs := []) (E := E0) he c hm F (hr.mono hj) hb .nil pass0 ht).run pins s σ H Q I h
end
/-! ### __init__ -/
abbrev sInit : Stmt := inClass sCls 0
def spInit (C : Addr) : Sp := fun vs H Q _ => ∃ (m dx : Addr), vs = [.ref m] ∧ H m = some (.ins C dx []) ∧ ∀ H' p, MemAt m C H' m p Ut03.init → (∀ b o, H b = some o → b ≠ m → H' b = some o) → H p = none → Q .non H'
theorem scInit : FnScope ["self"] ["self"] (defScope sInit) := ⟨rfl, rfl, rfl, by decide +kernel, rfl, by decide +kernel, by decide +kernel⟩
section
variable {P : Program} {w : World} {K : PySem.W.Frag} {mg : Str → Option Value} {base : Heap} {C zf : Addr}
theorem ok_init {f : Addr} {fd : FuncData} (F : Fun K "__init__" "Memory.__init__" sInit f fd) (T : ClsM K C) : FnOk P w K mg base CX0 1 f fd ["self"] (spInit C) := by
  refine F.ok scInit (fun vs H Q E h => ?_) (fun cdv A outer s H vs Q E hr h => ⟨_, pss_cons (ps_fld (pv 0) (pe_lst pa_nil) rfl) (pss_cons (ps_fld (pv 0) pe_int rfl) (pss_one (ps_fld (pv 0) (pe_lst pa_nil) rfl))), ?_⟩)
  · obtain ⟨_, _, rfl, _⟩ := h
    rfl
  · obtain ⟨m, dx, rfl, hm, k⟩ := h
    refine ⟨(by show 0 ≤ sizeLine; decide), fun e he => ?_⟩
    have ne : m ≠ e := ne_of_none hm he
    refine ⟨_, rfl, m, C, dx, _, rfl, by rw [upd_ne ne]; exact hm, T.cl, T.nE, (by show 0 < 1000; decide), ?_⟩
    refine ⟨_, rfl, m, C, dx, _, rfl, upd_same, T.cl, T.nF, (by show 1 < 1000; decide), ?_⟩
    rw [upd_upd]
    refine ⟨(by show 0 ≤ sizeLine; decide), fun p hp => ?_⟩
    have np : m ≠ p := ne_of_none upd_same hp
    have nep : e ≠ p := by
      refine ne_of_none (o := HO.lst []) ?_ hp
      rw [upd_ne (Ne.symm ne), upd_same]
    refine ⟨_, rfl, m, C, dx, _, rfl, by rw [upd_ne np, upd_same], T.cl, T.nP, (by show 2 < 1000; decide), ?_⟩
    refine k _ p ⟨⟨np, _, upd_same, fun _ z => by cases z⟩, dx, e, [], ?_, ?_, ⟨[], ?_, .nil⟩, .nil⟩ (fun b o q hb => ?_) ?_
    · rw [upd_same]
      exact congrArg (fun z => some (HO.ins C dx z)) (mF_new e 1 p)
    · rw [upd_ne (Ne.symm np), upd_same]
    · refine core_in ?_ (Ne.symm ne) nep (Ne.symm ne) (fun _ z => by cases z)
      rw [upd_ne (Ne.symm ne), upd_ne nep, upd_ne (Ne.symm ne), upd_same]
    · rw [upd_ne hb]
      have nbp : b ≠ p := by
        refine ne_of_none (o := o) ?_ hp
        rw [upd_ne hb, upd_ne (ne_of_none q he)]
        exact q
      rw [upd_ne nbp, upd_ne hb, upd_ne (ne_of_none q he)]
      exact q
    · rw [upd_ne (Ne.symm np), upd_ne (Ne.symm nep)] at hp
      exact hp
/-! ### numbered -/
abbrev sNum : Stmt := inClass sCls 1
def spNum (zf C : Addr) : Sp := fun vs H Q _ => ∃ (m p : Addr) (g : House), vs = [.ref m] ∧ MemAt zf C H m p g ∧ ∀ H', MemAt zf C H' m p { g with given := g.given + 1 } → (∀ b o, H b = some o → b ≠ m → H' b = some o) → Q (nV g.given) H'
theorem scNum : FnScope ["self", "number"] ["self"] (defScope sNum) := ⟨rfl, rfl, rfl, by decide +kernel, rfl, by decide +kernel, by decide +kernel⟩
theorem ok_num {f : Addr} {fd : FuncData} (F : Fun K "numbered" "Memory.numbered" sNum f fd) (T : ClsM K C) : FnOk P w K mg base CX0 1 f fd ["self"] (spNum zf C) := by
  refine F.ok scNum (fun vs H Q E h => ?_) (fun cdv A outer s H vs Q E hr h => ⟨_, pss_cons (ps_set (i := 1) scNum.nd rfl (Or.inl rfl) (pe_fld (pv 0) rfl)) (pss_cons (ps_fld (pv 0) (pe_op op_add (pv 1) pe_int) rfl) (pss_one (ps_ret (pv 1)))), ?_⟩)
  · obtain ⟨_, _, _, rfl, _⟩ := h
    rfl
  · obtain ⟨m, p, g, rfl, hM, k⟩ := h
    have nmp := hM.ne
    obtain ⟨dx, e, ps, h1, h2, h3, h4⟩ := hM.ex
    refine ⟨_, rfl, m, C, dx, _, _, rfl, h1, T.cl, T.nF, mF_f _ _ _, _, rfl, _, _, rfl, rfl, _, rfl, m, C, dx, _, rfl, h1, T.cl, T.nF, (by show 3 < 1000; decide), _, rfl, ?_⟩
    have keep : ∀ b o, H b = some o → b ≠ m → upd H m (.ins C dx (putF "following" (.int (((g.given : Nat) : Int) + 1)) (mF e g.given p))) b = some o := fun b o q hb => by rw [upd_ne hb]; exact q
    have c := core_mono (zf := zf) (m := m) (p := p) (H' := upd H m (.ins C dx (putF "following" (.int (((g.given : Nat) : Int) + 1)) (mF e g.given p)))) fun b o q hb _ _ => keep b o q hb
    refine k _ ⟨hM.zk (fun b o q h _ => keep b o q h) upd_same, dx, e, ps, ?_, by rw [upd_ne (Ne.symm nmp)]; exact h2, entsExt h3 (ExtN.of c), Paired.mono (fun v l hl => hl.ext (ExtN.of c)) h4⟩ keep
    rw [upd_same]
    exact congrArg (fun z => some (HO.ins C dx z)) (mF_putF e g.given (g.given + 1) p)
/-! ### become -/
abbrev sBecome : Stmt := inClass sCls 2
def spBecome (zf C : Addr) : Sp := fun vs H Q _ => ∃ (m p a : Addr) (g : House) (l : List Ent), vs = [.ref m, .ref a] ∧ MemAt zf C H m p g ∧ EntsAt (core zf m p H) a l ∧ g.old.length ≤ 10000 ∧
  ∀ H', MemAt zf C H' m p (Ut03.changes g l) → (∀ b o, H b = some o → b ≠ m → b ≠ p → H' b = some o) → Q .non H'
theorem scBecome : FnScope ["self", "entries"] ["self", "entries"] (defScope sBecome) := ⟨rfl, rfl, rfl, by decide +kernel, rfl, by decide +kernel, by decide +kernel⟩
theorem ok_become {f : Addr} {fd : FuncData} (F : Fun K "become" "Memory.become" sBecome f fd) (T : ClsM K C) : FnOk P w K mg base CX0 1 f fd ["self", "entries"] (spBecome zf C) := by
  refine F.ok scBecome (fun vs H Q E h => ?_) (fun cdv A outer s H vs Q E hr h => ⟨_, pss_cons (ps_expr (pe_bm PySem.F.plainAttrs_list PySem.F.slot_list_append PySem.F.type_list_append mt_append (pe_fld (pv 0) rfl) (pa_cons (pe_fld (pv 0) rfl) pa_nil))) (pss_one (ps_fld (pv 0) (pv 1) rfl)), ?_⟩)
  · obtain ⟨_, _, _, _, _, rfl, _⟩ := h
    rfl
  · obtain ⟨m, p, a, g, l, rfl, hM, hL, lo, k⟩ := h
    have nmp := hM.ne
    have big := sizeBig
    obtain ⟨dx, e, ps, h1, h2, h3, h4⟩ := hM.ex
    have lps := Paired.len h4
    rw [List.length_reverse] at lps
    refine ⟨_, rfl, m, C, dx, _, _, rfl, h1, T.cl, T.nP, mF_p _ _ _, .inl ⟨rfl, _, SqL.of h2⟩, _, rfl, m, C, dx, _, _, rfl, h1, T.cl, T.nE, mF_e _ _ _, p, ps, _, rfl, rfl, h2, by omega, ?_⟩
    have h1' : upd H p (.lst (ps ++ [V.ref e])) m = some (.ins C dx (mF e g.given p)) := by rw [upd_ne nmp]; exact h1
    refine ⟨_, rfl, _, rfl, m, C, dx, _, rfl, h1', T.cl, T.nE, (by show 3 < 1000; decide), ?_⟩
    rw [mF_putE]
    have keep : ∀ b o, H b = some o → b ≠ m → b ≠ p → upd (upd H p (.lst (ps ++ [V.ref e]))) m (.ins C dx (mF a g.given p)) b = some o := fun b o q hb hp => by rw [upd_ne hb, upd_ne hp]; exact q
    have c := core_mono (zf := zf) (m := m) (p := p) (H' := upd (upd H p (.lst (ps ++ [V.ref e]))) m (.ins C dx (mF a g.given p))) fun b o q hb hp _ => keep b o q hb hp
    refine k _ ⟨hM.zk keep upd_same, dx, a, ps ++ [.ref e], upd_same, by rw [upd_ne (Ne.symm nmp), upd_same], entsExt hL (ExtN.of c), ?_⟩ keep
    rw [List.reverse_append]
    exact .cons ⟨e, rfl, entsExt h3 (ExtN.of c)⟩ (Paired.mono (fun v l hl => hl.ext (ExtN.of c)) h4)
/-! ### undo -/
abbrev sUndoM : Stmt := inClass sCls 3
def spUndoM (zf C : Addr) : Sp := fun vs H Q _ => ∃ (m p : Addr) (g : House) (l : List Ent) (r : List (List Ent)), vs = [.ref m] ∧ MemAt zf C H m p g ∧ g.old = l :: r ∧
  ∀ H', MemAt zf C H' m p { g with entries := l, old := r } → (∀ b o, H b = some o → b ≠ m → b ≠ p → H' b = some o) → Q .non H'
theorem scUndoM : FnScope ["self"] ["self"] (defScope sUndoM) := ⟨rfl, rfl, rfl, by decide +kernel, rfl, by decide +kernel, by decide +kernel⟩
theorem ok_undoM {f : Addr} {fd : FuncData} (F : Fun K "undo" "Memory.undo" sUndoM f fd) (T : ClsM K C) : FnOk P w K mg base CX0 1 f fd ["self"] (spUndoM zf C) := by
  refine F.ok scUndoM (fun vs H Q E h => ?_) (fun cdv A outer s H vs Q E hr h => ⟨_, pss_one (ps_fld (pv 0) (pe_bm0 PySem.F.plainAttrs_list PySem.F.slot_list_pop PySem.F.type_list_pop mt_pop (pe_fld (pv 0) rfl)) rfl), ?_⟩)
  · obtain ⟨_, _, _, _, _, rfl, _⟩ := h
    rfl
  · obtain ⟨m, p, g, l, r, rfl, hM, ho, k⟩ := h
    have nmp := hM.ne
    obtain ⟨dx, e, ps, h1, h2, h3, h4⟩ := hM.ex
    rw [ho] at h4
    generalize hrev : ps.reverse = qs at h4
    cases h4 with
    | @cons v l' qs' r' hv hr4 =>
      have eps : ps = qs'.reverse ++ [v] := by
        have := congrArg List.reverse hrev
        rw [List.reverse_reverse, List.reverse_cons] at this
        exact this
      obtain ⟨a, rfl, hA⟩ := hv.ex
      have hlast : ps[ps.length - 1]? = some (.ref a) := by
        rw [eps, List.length_append]
        show (qs'.reverse ++ [V.ref a])[qs'.reverse.length + 1 - 1]? = _
        rw [Nat.add_sub_cancel, List.getElem?_append_right (Nat.le_refl _), Nat.sub_self]
        rfl
      have hdl : ps.dropLast = qs'.reverse := by rw [eps, List.dropLast_concat]
      refine ⟨_, rfl, m, C, dx, _, _, rfl, h1, T.cl, T.nP, mF_p _ _ _, .inl ⟨rfl, _, SqL.of h2⟩, p, ps, _, rfl, rfl, h2, hlast, ?_⟩
      have h1' : upd H p (.lst ps.dropLast) m = some (.ins C dx (mF e g.given p)) := by rw [upd_ne nmp]; exact h1
      refine ⟨_, rfl, m, C, dx, _, rfl, h1', T.cl, T.nE, (by show 3 < 1000; decide), ?_⟩
      rw [mF_putE]
      have keep : ∀ b o, H b = some o → b ≠ m → b ≠ p → upd (upd H p (.lst ps.dropLast)) m (.ins C dx (mF a g.given p)) b = some o := fun b o q hb hp => by rw [upd_ne hb, upd_ne hp]; exact q
      have c := core_mono (zf := zf) (m := m) (p := p) (H' := upd (upd H p (.lst ps.dropLast)) m (.ins C dx (mF a g.given p))) fun b o q hb hp _ => keep b o q hb hp
      refine k _ ⟨hM.zk keep upd_same, dx, a, qs'.reverse, upd_same, by rw [upd_ne (Ne.symm nmp), upd_same, hdl], entsExt hA (ExtN.of c), ?_⟩ keep
      rw [List.reverse_reverse]
      exact Paired.mono (fun v l hl => hl.ext (ExtN.of c)) hr4
end
end TW

/-! The walk: the deeds, first part. -/
namespace TW
open PySem PySem.Spec PyProof.Rows L2 LamX
open Ut03 (Sent Ask House)
/-- a deed's promise, by its number -/
def spDeed (zf C Pt : Addr) (n : Nat) : Sp := fun vs H Q _ => ∃ (m p nA lA : Addr) (g : House) (nums : List Nat) (rows : List (List Nat)) (x : Ut03.Call), vs = [.ref m, .ref nA, .ref lA] ∧ MemAt zf C H m p g ∧ TM.Good g ∧ TabS H Pt qLam ∧
  SentAt (core zf m p H) nA nums ∧ SentsAt (core zf m p H) lA rows ∧ g.old.length ≤ 10000 ∧ TM.Shaped ⟨n, nums, rows⟩ ∧ TM.dOf ⟨n, nums, rows⟩ = some x ∧ (∀ r ∈ rows, r.length ≤ 10000) ∧ (Ut03.step g x).2.length ≤ 10000000 ∧
  ∀ H' a, KeepM m p H H' → MemAt zf C H' m p (Ut03.step g x).1 → TabS H' Pt qLam → H' a = some (.lst ((Ut03.step g x).2.map V.int)) → a ≠ p → Fresh H a → Q (.ref a) H'
theorem fresh_same {H H' : Hp} {a : Addr} (s : Same H H') (h : H' a = none) : Fresh H a := Fresh.of (ExtN.of s) h
/-- a comprehension that keeps some items as they are -/
theorem lc_keep {α : Type} {F : Hp → V → α → Prop} {K : PySem.W.Frag} {σ : L2.St} {H : Hp} {a : Addr} {l : List α} {p : α → Bool} {tl : TE} {tt : TT} {Q : VK} {j : Nat} (hj : j < σ.length) (htl : ∀ R : V → Hp → Prop, R (.ref a) H → tl σ H R) (hL : LstAt F H a l) (hz : l.length ≤ 1000)
    (test : ∀ (v : V) (e : α) (D : Addr) (ys : List V) (R : Bool → Hp → Prop), e ∈ l → F H v e → H D = none → R (p e) (upd H D (.lst ys)) → tt ((σ.set j none).set j (some v)) (upd H D (.lst ys)) R)
    (hd : ∀ (D : Addr) (ys : List V), H D = none → Paired (F H) ys (l.filter p) → Q (.ref D) (upd H D (.lst ys))) : tLc (iList K tl) (gName j) tt (tVar j) [j] σ H Q := by
  obtain ⟨xs, hxs, hp⟩ := hL.ex
  have lx := Paired.len hp
  have big := sizeBig
  refine htl _ ⟨a, rfl, ⟨_, SqL.of hxs⟩, fun D hD => lc_list (K := K) (a := a) (xs := xs) (fun i H' => ∃ ys : List V, H' = upd H D (.lst ys) ∧ Paired (F H) ys ((l.take i).filter p))
      ⟨[], rfl, .nil⟩ (fun i H' _ ⟨ys, e, _⟩ => by rw [e]; exact SqL.of (same_new hD _ _ hxs)) (fun i x H' hi ⟨ys, e, hy⟩ => ?_) (fun H' ⟨ys, e, hy⟩ => ?_)⟩
  · obtain ⟨y, hy', hF⟩ := Paired.atL hp hi
    have lf := List.length_filter_le p (l.take i)
    rw [List.length_take] at lf
    have ly := Paired.len hy
    have e2 : wipe ((wipe σ [j]).set j (some x)) [j] = wipe σ [j] := by
      show ((σ.set j none).set j (some x)).set j none = σ.set j none
      rw [List.set_set, List.set_set]
    rw [e]
    refine ⟨e2, ?_⟩
    refine test x y D ys _ (List.mem_of_getElem? hy') hF hD ?_
    have ef : (l.take (i + 1)).filter p = (l.take i).filter p ++ [y].filter p := by rw [take_more hy', List.filter_append]
    cases hpy : p y with
    | true =>
      have e3 : [y].filter p = [y] := by simp [hpy]
      refine iteT ⟨x, ?_, ys, upd_same, by omega, ys ++ [x], by rw [upd_upd], ?_⟩
      · show ((σ.set j none).set j (some x))[j]? = some (some x)
        rw [List.getElem?_set_self (by rw [List.length_set]; exact hj)]
      · rw [ef, e3]
        exact Paired.snoc hF hy
    | false =>
      have e3 : [y].filter p = [] := by simp [hpy]
      refine iteF ⟨ys, rfl, ?_⟩
      rw [ef, e3, List.append_nil]
      exact hy
  · rw [lx, List.take_length] at hy
    rw [e]
    exact hd D ys hD hy
theorem int_eq (a b : Nat) : decide (nV a = nV b) = (a == b) := by rw [nat_eq, Bool.beq_eq_decide_eq]
/-- the entries of a memory, as they lie -/
theorem MemAt.ents {zf C : Addr} {H : Hp} {m p : Addr} {g : House} (h : MemAt zf C H m p g) : ∃ (dx e : Addr), H m = some (.ins C dx (mF e g.given p)) ∧ LstAt (fun H => EntAt (core zf m p H)) H e g.entries ∧ EntsAt H e g.entries := by
  obtain ⟨dx, e, ps, h1, _, h3, _⟩ := h.ex
  obtain ⟨xs, hx, hp⟩ := h3.ex
  exact ⟨dx, e, h1, ⟨xs, core_sub _ _ hx, hp⟩, entsExt h3 (ExtN.of core_sub)⟩
theorem MemAt.fresh {zf C : Addr} {H : Hp} {m p a : Addr} {g : House} (h : MemAt zf C H m p g) (f : Fresh H a) : a ≠ p := by
  obtain ⟨dx, e, ps, _, h2, _⟩ := h.ex
  exact (f.ne h2 (fun _ z => by cases z)).symm
theorem MemAt.tabs {zf C : Addr} {H H' : Hp} {m p Pt : Addr} {q : Str} {g : House} (h : MemAt zf C H m p g) (t : TabS H Pt q) (keep : ∀ b o, H b = some o → b ≠ m → b ≠ p → H' b = some o) : TabS H' Pt q := by
  obtain ⟨dx, e, xs, h1, h2, _⟩ := h.ex
  obtain ⟨ps, t1, t2, t3⟩ := t
  refine ⟨ps, keep _ _ t1 (ne_of t1 h1 (by intro z; cases z)) (ne_of t1 h2 (by intro z; cases z)), t2, fun pos cv hc => ?_⟩
  obtain ⟨c, e1, e2⟩ := t3 pos cv hc
  exact ⟨c, e1, keep _ _ e2 (ne_of e2 h1 (by intro z; unfold CodeO at z; cases z)) (ne_of e2 h2 (by intro z; unfold CodeO at z; cases z))⟩
/-! ### entries_with -/
abbrev sWithN : Stmt := top 37
def spWithN (zf C : Addr) : Sp := fun vs H Q _ => ∃ (m p : Addr) (g : House) (n : Nat), vs = [.ref m, nV n] ∧ MemAt zf C H m p g ∧ g.entries.length ≤ 1000 ∧
  ∀ H' a, Same H H' → H a = none → EntsAt H' a (g.entries.filter fun e => e.number == n) → Q (.ref a) H'
theorem scWithN : FnScope ["memory", "number", "entry"] ["memory", "number"] (defScope sWithN) := ⟨rfl, rfl, rfl, by decide +kernel, rfl, by decide +kernel, by decide +kernel⟩
section
variable {P : Program} {w : World} {K : PySem.W.Frag} {mg : Str → Option Value} {base : Heap} {C Pt zf : Addr}
theorem ok_withN {f : Addr} {fd : FuncData} (F : Fun K "entries_with" "entries_with" sWithN f fd) (T : ClsM K C) : FnOk P w K mg base CX0 1 f fd ["memory", "number"] (spWithN zf C) := by
  refine F.ok scWithN (fun vs H Q E h => ?_) (fun cdv A outer s H vs Q E hr h => ⟨_, pss_one (ps_ret (pe_lc (own := [("entry", 2)]) (g := gName 2) rfl scWithN.nd (pi_list (pe_fld (pv 0) rfl)) (blkOk_by (N := ["memory", "number", "entry"]) (sc := defScope sWithN) (by decide +kernel))
      (fun _ _ _ _ _ => pg_name (i := 2) scWithN.nd rfl (Or.inl rfl)) (fun _ _ _ _ _ => pts_one (pt_cmpR op_eq (pe_ix (r := rIxT K) ix_tup (pv 2) pe_int (fun _ _ => rfl)) (pv 1) (nomark _))) (fun _ _ _ _ _ => pv 2))), ?_⟩)
  · obtain ⟨_, _, _, _, rfl, _⟩ := h
    rfl
  · obtain ⟨m, p, g, n, rfl, hM, lg, k⟩ := h
    obtain ⟨dx, e, h1, _, hE⟩ := hM.ents
    refine lc_keep (F := EntAt) (a := e) (l := g.entries) (p := fun e => e.number == n) (by show (2 : Nat) < 3; decide) (fun R r => ⟨_, rfl, m, C, dx, _, _, rfl, h1, T.cl, T.nE, mF_e _ _ _, r⟩) hE lg (fun v y D ys R hy hF hD r => ?_) (fun D ys hD hy => ?_)
    · obtain ⟨t, a1, r1, rfl, g1, _⟩ := hF.ex
      refine ⟨_, rfl, t, _, _, _, rfl, rfl, SqT.of (same_new hD _ _ g1), at_of (j := 0) rfl rfl, _, rfl, rfl, _, rfl, ?_⟩
      rw [int_eq]
      exact r
    · exact k _ D (same_new hD) hD ⟨ys, upd_same, Paired.mono (fun v x hx => hx.ext (ExtN.of (same_new hD))) hy⟩
end
/-! ### take -/
theorem filter_any {l : List Ent} {n : Nat} : (l.any fun e => e.number == n) = !(l.filter fun e => e.number == n).isEmpty := by
  induction l with
  | nil => rfl
  | cons e l ih =>
    rw [List.any_cons, ih, List.filter_cons]
    cases h : e.number == n with
    | true => rfl
    | false => rfl
theorem ents_nil_rd {K : PySem.W.Frag} {H : Hp} {a : Addr} {l : List Ent} (h : EntsAt H a l) : Dp K H (.ref a) (.list (l.map eD)) ∧ SeqAt.shaped (.list (l.map eD)) = true ∧ PyData.eqv (.list (l.map eD)) (.list []) = l.isEmpty := by
  refine ⟨lst_dp h fun v e he => eD_at he, (nice_list (n := 3) fun d hd => ?_).shaped (by decide), ?_⟩
  · obtain ⟨e, _, rfl⟩ := List.mem_map.mp hd
    exact eD_nice e
  · rw [eqv_nil]
    cases l <;> rfl
theorem nil_rd {K : PySem.W.Frag} {H : Hp} {a : Addr} (h : H a = some (.lst [])) : Dp K H (.ref a) (.list []) := .lst (SqL.of h) .nil
abbrev sTake : Stmt := top 39
theorem scTake : FnScope ["memory", "numbers", "lists", "entry"] ["memory", "numbers", "lists"] (defScope sTake) := ⟨rfl, rfl, rfl, by decide +kernel, rfl, by decide +kernel, by decide +kernel⟩
section
variable {P : Program} {w : World} {K : PySem.W.Frag} {mg : Str → Option Value} {base : Heap} {C Pt zf : Addr}
theorem ok_take {f : Addr} {fd : FuncData} (F : Fun K "take" "take" sTake f fd) (T : ClsM K C) (G : Glob mg) (DW : Dep P w K mg base 1 "entries_with" ["memory", "number"] (spWithN zf C)) (DB : DepM P w K mg base 1 C "become" ["self", "entries"] (spBecome zf C)) :
    FnOk P w K mg base CX0 14 f fd ["memory", "numbers", "lists"] (spDeed zf C Pt 1) := by
  refine F.ok scTake (fun vs H Q E h => ?_) (fun cdv A outer s H vs Q E hr h => ⟨_, pss_cons (ps_if (pt_cmpR (op_eqD hr.units) (pe_dep DW hr rfl (pa_cons (pv 0) (pa_cons (pe_ix ix_list (pv 1) pe_int (fun _ _ => rfl)) pa_nil))) (pe_lst pa_nil) (nomark _)) (pss_one (ps_ret (pe_lst (pa_cons (pe_gl G.no_entry rfl) pa_nil)))) pss_nil)
    (pss_cons (ps_expr (pe_dm (pv 0) T.cl DB hr (pa_cons (pe_lc (own := [("entry", 3)]) (g := gName 3) rfl scTake.nd (pi_list (pe_fld (pv 0) rfl)) (blkOk_by (N := ["memory", "numbers", "lists", "entry"]) (sc := defScope sTake) (by decide +kernel))
      (fun _ _ _ _ _ => pg_name (i := 3) scTake.nd rfl (Or.inl rfl)) (fun _ _ _ _ _ => pts_one (pt_cmpR op_ne (pe_ix (r := rIxT K) ix_tup (pv 3) pe_int (fun _ _ => rfl)) (pe_ix (r := rIxL K) ix_list (pv 1) pe_int (fun _ _ => rfl)) (nomark _))) (fun _ _ _ _ _ => pv 3)) pa_nil)))
    (pss_one (ps_ret (pe_lst (pa_cons (pe_len G (pe_fld (pv 0) rfl)) pa_nil))))), ?_⟩)
  · obtain ⟨_, _, _, _, _, _, _, _, rfl, _⟩ := h
    rfl
  · obtain ⟨m, p, nA, lA, g, nums, rows, x, rfl, hM, hG, hT, hN, hR, lo, S, hx, lr, la, k⟩ := h
    cases S with
    | take n =>
      have ex := Option.some.inj hx
      subst ex
      have hN0 := (hN.same core_sub)
      have most := hG.now.most
      refine ⟨_, rfl, _, rfl, nA, _, _, nV n, rfl, rfl, hN0.sq, at_of (j := 0) rfl rfl, m, p, g, n, rfl, hM, by omega, fun H1 a s1 _ hE => ⟨(by show 0 ≤ sizeLine; decide), fun b hb => ?_⟩⟩
      have s2 : Same H1 (upd H1 b (.lst [])) := same_new hb
      have s12 := s1.trans s2
      obtain ⟨d1, d2, d3⟩ := ents_nil_rd (K := K) (entsExt hE (ExtN.of s2))
      refine ⟨_, _, d1, nil_rd upd_same, d2, nice_nil.shaped (by decide), _, rfl, ?_⟩
      rw [d3]
      cases hem : (g.entries.filter fun e => e.number == n).isEmpty with
      | true =>
        have est : Ut03.step g (.take n) = (g, [-2]) := by
          show (if (g.entries.any fun e => e.number == n) = false then _ else _) = _
          rw [filter_any, hem]
          rfl
        rw [est] at k
        refine iteT ⟨(by show 1 ≤ sizeLine; decide), fun r hr => ?_⟩
        have s3 := s12.trans (same_new (o := HO.lst [V.int (-2)]) hr)
        exact k _ r (KeepM.of (ExtN.of s3)) (hM.ext (ExtN.of s3)) (hT.ext s3) upd_same (hM.fresh (fresh_same s12 hr)) (fresh_same s12 hr)
      | false =>
        have est : Ut03.step g (.take n) = (Ut03.changes g (g.entries.filter fun e => e.number != n), Ut03.ints [(Ut03.changes g (g.entries.filter fun e => e.number != n)).entries.length]) := by
          show (if (g.entries.any fun e => e.number == n) = false then _ else _) = _
          rw [filter_any, hem]
          rfl
        rw [est] at k
        have hM2 := hM.ext (ExtN.of s12)
        have hT2 := hT.ext s12
        have hN2 := hN0.same s12
        obtain ⟨dx, e, h1, hLc, _⟩ := hM2.ents
        refine iteF ⟨_, rfl, m, dx, _, rfl, h1, mF_none (by decide +kernel) (by decide +kernel) (by decide +kernel) _ _ _, ?_⟩
        refine lc_keep (F := fun H => EntAt (core zf m p H)) (a := e) (l := g.entries) (p := fun e => e.number != n) (by show (3 : Nat) < 4; decide) (fun R r => ⟨_, rfl, m, C, dx, _, _, rfl, h1, T.cl, T.nE, mF_e _ _ _, r⟩) hLc (by omega) (fun v y D ys R hy hF hD r => ?_) (fun D ys hD hy => ?_)
        · obtain ⟨t, a1, r1, rfl, g1, _⟩ := hF.ex
          refine ⟨_, rfl, t, _, _, _, rfl, rfl, SqT.of (same_new hD _ _ (core_sub _ _ g1)), at_of (j := 0) rfl rfl, _, rfl, nA, _, _, _, rfl, rfl, (hN2.same (same_new hD)).sq, at_of (j := 0) rfl rfl, rfl, _, rfl, ?_⟩
          rw [int_eq]
          exact r
        · have s3 : Same _ _ := same_new (o := HO.lst ys) hD
          have hM3 := hM2.ext (ExtN.of s3)
          obtain ⟨_, _, _, m1, m2, _⟩ := hM2.ex
          have Dm : D ≠ m := (ne_of_none m1 hD).symm
          have Dp : D ≠ p := (ne_of_none m2 hD).symm
          refine ⟨m, p, D, g, g.entries.filter fun e => e.number != n, rfl, hM3, ⟨ys, core_in upd_same Dm Dp (hM2.zn hD) (fun _ z => by cases z), Paired.mono (fun v x hx => hx.ext (ExtN.of (core_mono (KeepM.of (ExtN.of s3))))) hy⟩, lo, fun H4 hM4 k4 => ?_⟩
          obtain ⟨dx4, e4, h4, hL4, _⟩ := hM4.ents
          obtain ⟨xs4, hx4, hp4⟩ := hL4.ex
          refine ⟨_, rfl, m, C, dx4, _, _, rfl, h4, T.cl, T.nE, mF_e _ _ _, e4, _, rfl, .inl (SqL.of hx4), (by show 1 ≤ sizeLine; decide), fun r hr => ?_⟩
          have s5 : Same H4 (upd H4 r (.lst [V.int ((xs4.length : Nat) : Int)])) := same_new hr
          have s123 := s12.trans s3
          have kp : KeepM m p H H4 := fun b o q hb hp _ => k4 b o (s123 b o q) hb hp
          have t4 : TabS H4 Pt qLam := hM3.tabs (hT2.ext s3) k4
          have fr : Fresh H r := fun o q n => by
            by_cases hm : r = m
            · rw [hm, h4] at hr; cases hr
            · obtain ⟨_, _, _, _, m5, _⟩ := hM4.ex
              by_cases hpp : r = p
              · rw [hpp, m5] at hr; cases hr
              · rw [kp r o q hm hpp n] at hr; cases hr
          refine k _ r (kp.trans (KeepM.of (ExtN.of s5))) (hM4.ext (ExtN.of s5)) (t4.ext s5) ?_ (hM.fresh fr) fr
          rw [upd_same, Paired.len hp4]
          rfl
end
end TW

/-! The walk: the deeds, second part. -/
namespace TW
open PySem PySem.Spec PyProof.Rows L2 LamX
open Ut03 (Sent Ask House)
/-- a deed that leaves the memory as it was hands back a new list -/
theorem quiet {zf C Pt m p r : Addr} {H H' : Hp} {g : House} {ans : List Int} {Q : VK} (hM : MemAt zf C H m p g) (x : ExtN H H') (t : TabS H' Pt qLam) (hr : H' r = none)
    (k : ∀ H' a, KeepM m p H H' → MemAt zf C H' m p g → TabS H' Pt qLam → H' a = some (.lst (ans.map V.int)) → a ≠ p → Fresh H a → Q (.ref a) H') : Q (.ref r) (upd H' r (.lst (ans.map V.int))) := by
  have s : Same H' (upd H' r (.lst (ans.map V.int))) := same_new hr
  have x2 := ExtN.trans x (ExtN.of s)
  have fr : Fresh H r := Fresh.of x hr
  exact k _ r (KeepM.of x2) (hM.ext x2) (t.ext s) upd_same (hM.fresh fr) fr
theorem fresh_keep {zf C m p r : Addr} {H H' : Hp} {g : House} (hM : MemAt zf C H' m p g) (k : KeepM m p H H') (hr : H' r = none) : Fresh H r := fun o q n => by
  obtain ⟨_, _, _, h1, h2, _⟩ := hM.ex
  have a : r ≠ m := fun z => by rw [z, h1] at hr; cases hr
  have b : r ≠ p := fun z => by rw [z, h2] at hr; cases hr
  rw [k r o q a b n] at hr
  cases hr
theorem ints_nV (l : List Nat) : (Ut03.ints l).map V.int = l.map nV := by
  unfold Ut03.ints
  rw [List.map_map]
  rfl
theorem Paired.rev {α β : Type} {F : α → β → Prop} : ∀ {xs : List α} {ys : List β}, Paired F xs ys → Paired F xs.reverse ys.reverse
  | _, _, .nil => .nil
  | _, _, .cons a r => by
    rw [List.reverse_cons, List.reverse_cons]
    exact Paired.snoc a (Paired.rev r)
theorem two_sents {H : Hp} {a : Addr} {s t : List Nat} (h : SentsAt H a [s, t]) : ∃ r1 r2, H a = some (.lst [.ref r1, .ref r2]) ∧ SentAt H r1 s ∧ SentAt H r2 t := by
  obtain ⟨xs, h1, h2⟩ := h.ex
  cases h2 with
  | cons a b =>
    cases b with
    | cons c d =>
      cases d
      obtain ⟨r1, rfl, e1⟩ := a.ex
      obtain ⟨r2, rfl, e2⟩ := c.ex
      exact ⟨r1, r2, h1, e1, e2⟩
theorem one_sent {H : Hp} {a : Addr} {s : List Nat} (h : SentsAt H a [s]) : ∃ r1, H a = some (.lst [.ref r1]) ∧ SentAt H r1 s := by
  obtain ⟨xs, h1, h2⟩ := h.ex
  cases h2 with
  | cons a b =>
    cases b
    obtain ⟨r1, rfl, e1⟩ := a.ex
    exact ⟨r1, h1, e1⟩
/-! ### near -/
abbrev sNearD : Stmt := top 49
theorem scNearD : FnScope ["memory", "numbers", "lists", "one", "other"] ["memory", "numbers", "lists"] (defScope sNearD) := ⟨rfl, rfl, rfl, by decide +kernel, rfl, by decide +kernel, by decide +kernel⟩
section
variable {P : Program} {w : World} {K : PySem.W.Frag} {mg : Str → Option Value} {base : Heap} {C Pt zf : Addr}
theorem ok_nearD {f : Addr} {fd : FuncData} (F : Fun K "near" "near" sNearD f fd) (G : Glob mg) (DA : Dep P w K mg base 1 "are_words" ["numbers"] spAre) (DD : Dep P w K mg base 3 "distance" ["one", "other"] spDist) (DN : Dep P w K mg base 4 "nearness" ["one", "other"] spNear) :
    FnOk P w K mg base CX0 14 f fd ["memory", "numbers", "lists"] (spDeed zf C Pt 10) := by
  refine F.ok scNearD (fun vs H Q E h => ?_) (fun cdv A outer s H vs Q E hr h => ⟨_, pss_cons (ps_asg (pv 2) (pg_unl rfl (pgs_cons (pg_name (i := 3) scNearD.nd rfl (Or.inl rfl)) (pgs_cons (pg_name (i := 4) scNearD.nd rfl (Or.inl rfl)) pgs_nil))))
    (pss_cons (ps_if (PW.pt (pw_or (pt_not (pt_val (pe_dep DA hr rfl (pa_cons (pv 3) pa_nil)))) (pw_or1 (pt_not (pt_val (pe_dep DA hr rfl (pa_cons (pv 4) pa_nil))))))) (pss_one (ps_ret (pe_lst (pa_cons (pe_gl G.wrong rfl) pa_nil)))) pss_nil)
    (pss_one (ps_ret (pe_lst (pa_cons (pe_dep DD hr rfl (pa_cons (pv 3) (pa_cons (pv 4) pa_nil))) (pa_cons (pe_dep DN hr rfl (pa_cons (pv 3) (pa_cons (pv 4) pa_nil))) pa_nil)))))), ?_⟩)
  · obtain ⟨_, _, _, _, _, _, _, _, rfl, _⟩ := h
    rfl
  · obtain ⟨m, p, nA, lA, g, nums, rows, x, rfl, hM, hG, hT, hN, hR, lo, S, hx, lr, la, k⟩ := h
    cases S with
    | near a b =>
      have ex := Option.some.inj hx
      subst ex
      obtain ⟨r1, r2, h1, e1, e2⟩ := two_sents hR
      have l1 := lr a (by simp)
      have l2 := lr b (by simp)
      have e1 := e1.same core_sub
      have e2 := e2.same core_sub
      refine ⟨_, rfl, lA, _, rfl, SqL.of (core_sub _ _ h1), rfl, _, _, rfl, _, _, rfl, rfl, ?_⟩
      -- a refusal
      have no : ∀ H1, Same H H1 → (Ut03.sentOk a = false ∨ Ut03.sentOk b = false) → tRet (tLst (tCons (tC (.int (-1))) tNil)) { nx := fun _ H' => Q .non H', rt := Q } (L2.start ["memory", "numbers", "lists", "one", "other"] [V.ref m, V.ref nA, V.ref lA]) H1 := fun H1 s1 c => by
        have est : Ut03.step g (.near a b) = (g, [-1]) := by
          show (g, if Ut03.sentOk a = false ∨ Ut03.sentOk b = false then [-1] else _) = _
          rw [if_pos c]
        rw [est] at k
        exact ⟨(by show 1 ≤ sizeLine; decide), fun r hr => quiet (ans := [-1]) hM (ExtN.of s1) (hT.ext s1) hr k⟩
      refine ⟨_, rfl, r1, a, rfl, e1, fun H1 s1 => ⟨_, rfl, ?_⟩⟩
      cases c1 : Ut03.sentOk a with
      | false => exact iteT (iteT (no H1 s1 (.inl c1)))
      | true =>
        refine iteF ⟨_, rfl, r2, b, rfl, e2.same s1, fun H2 s2 => ⟨_, rfl, ?_⟩⟩
        have s12 := s1.trans s2
        cases c2 : Ut03.sentOk b with
        | false => exact iteT (no H2 s12 (.inr c2))
        | true =>
          have la' := TM.sentOk_len c1
          have lb' := TM.sentOk_len c2
          refine iteF ⟨_, rfl, _, rfl, r1, r2, a, b, rfl, e1.same s12, e2.same s12, by omega, fun H3 s3 => ?_⟩
          have s123 := s12.trans s3
          refine ⟨_, rfl, _, rfl, r1, r2, a, b, rfl, e1.same s123, e2.same s123, by omega, by omega, fun H4 s4 => ?_⟩
          have est : Ut03.step g (.near a b) = (g, Ut03.ints [Ut03.distance a b, Ut03.near a b]) := by
            show (g, if Ut03.sentOk a = false ∨ Ut03.sentOk b = false then [-1] else _) = _
            rw [if_neg (by rw [c1, c2]; decide)]
          rw [est] at k
          exact ⟨(by show 2 ≤ sizeLine; decide), fun r hr => quiet (ans := Ut03.ints [Ut03.distance a b, Ut03.near a b]) hM (ExtN.of (s123.trans s4)) (hT.ext (s123.trans s4)) hr k⟩
end
/-! ### undo -/
abbrev sUndo : Stmt := top 48
theorem scUndo : FnScope ["memory", "numbers", "lists"] ["memory", "numbers", "lists"] (defScope sUndo) := ⟨rfl, rfl, rfl, by decide +kernel, rfl, by decide +kernel, by decide +kernel⟩
def esD (l : List Ent) : PyData := .list (l.map eD)
theorem esD_nice (l : List Ent) : Nice 4 (esD l) := nice_list (n := 3) fun d hd => by
  obtain ⟨e, _, rfl⟩ := List.mem_map.mp hd
  exact eD_nice e
section
variable {P : Program} {w : World} {K : PySem.W.Frag} {mg : Str → Option Value} {base : Heap} {C Pt zf : Addr}
theorem ok_undo {f : Addr} {fd : FuncData} (F : Fun K "undo" "undo" sUndo f fd) (T : ClsM K C) (G : Glob mg) (DU : DepM P w K mg base 1 C "undo" ["self"] (spUndoM zf C)) :
    FnOk P w K mg base CX0 14 f fd ["memory", "numbers", "lists"] (spDeed zf C Pt 9) := by
  refine F.ok scUndo (fun vs H Q E h => ?_) (fun cdv A outer s H vs Q E hr h => ⟨_, pss_cons (ps_if (pt_cmpR (op_eqD hr.units) (pe_fld (pv 0) rfl) (pe_lst pa_nil) (nomark _)) (pss_one (ps_ret (pe_lst (pa_cons (pe_gl G.nothing rfl) pa_nil)))) pss_nil)
    (pss_cons (ps_expr (pe_dm0 (pv 0) T.cl DU hr))
    (pss_one (ps_ret (pe_lst (pa_cons (pe_len G (pe_fld (pv 0) rfl)) pa_nil))))), ?_⟩)
  · obtain ⟨_, _, _, _, _, _, _, _, rfl, _⟩ := h
    rfl
  · obtain ⟨m, p, nA, lA, g, nums, rows, x, rfl, hM, hG, hT, hN, hR, lo, S, hx, lr, la, k⟩ := h
    cases S with
    | undo =>
      have ex := Option.some.inj hx
      subst ex
      obtain ⟨dx, e, ps, h1, h2, h3, h4⟩ := hM.ex
      refine ⟨_, rfl, m, C, dx, _, _, rfl, h1, T.cl, T.nP, mF_p _ _ _, (by show 0 ≤ sizeLine; decide), fun b hb => ?_⟩
      have s1 : Same H (upd H b (.lst [])) := same_new hb
      have dp : Dp K (upd H b (.lst [])) (.ref p) (.list (g.old.reverse.map esD)) := by
        refine lst_dp (F := EntsV) (D := esD) ⟨ps, s1 _ _ h2, ?_⟩ fun v l hl => ?_
        · have := Paired.rev h4
          rw [List.reverse_reverse] at this
          exact Paired.mono (fun v l hl => hl.ext (ExtN.of fun b o q => s1 b o (core_sub b o q))) this
        · obtain ⟨a, rfl, hA⟩ := hl.ex
          exact lst_dp hA fun v e he => eD_at he
      refine ⟨_, _, dp, nil_rd upd_same, (nice_list (n := 4) fun d hd => ?_).shaped (by decide), nice_nil.shaped (by decide), _, rfl, ?_⟩
      · obtain ⟨l, _, rfl⟩ := List.mem_map.mp hd
        exact esD_nice l
      rw [eqv_nil]
      cases ho : g.old with
      | nil =>
        have est : Ut03.step g .undo = (g, [-7]) := by
          show (match g.old with | [] => (g, [-7]) | l :: r => _) = _
          rw [ho]
        rw [est] at k
        exact iteT ⟨(by show 1 ≤ sizeLine; decide), fun r hr => quiet (ans := [-7]) hM (ExtN.of s1) (hT.ext s1) hr k⟩
      | cons l r =>
        have est : Ut03.step g .undo = ({ g with entries := l, old := r }, Ut03.ints [l.length]) := by
          show (match g.old with | [] => (g, [-7]) | l :: r => _) = _
          rw [ho]
        rw [est] at k
        have eb : ((l :: r).reverse.map esD).isEmpty = false := by
          rw [List.reverse_cons, List.map_append]
          cases (r.reverse.map esD) <;> rfl
        rw [eb]
        have hM1 := hM.ext (ExtN.of s1)
        refine iteF ⟨_, rfl, m, dx, _, rfl, s1 _ _ h1, mF_none (by decide +kernel) (by decide +kernel) (by decide +kernel) _ _ _, m, p, g, l, r, rfl, hM1, ho, fun H2 hM2 k2 => ?_⟩
        obtain ⟨dx2, e2, g2, hL2, _⟩ := hM2.ents
        obtain ⟨xs2, hx2, hp2⟩ := hL2.ex
        refine ⟨_, rfl, m, C, dx2, _, _, rfl, g2, T.cl, T.nE, mF_e _ _ _, e2, _, rfl, .inl (SqL.of hx2), (by show 1 ≤ sizeLine; decide), fun r' hr' => ?_⟩
        have s3 : Same H2 (upd H2 r' (.lst [V.int ((xs2.length : Nat) : Int)])) := same_new hr'
        have kp : KeepM m p H H2 := fun b o q hb hp _ => k2 b o (s1 b o q) hb hp
        have t2 : TabS H2 Pt qLam := hM1.tabs (hT.ext s1) k2
        have fr := fresh_keep hM2 kp hr'
        refine k _ r' (kp.trans (KeepM.of (ExtN.of s3))) (hM2.ext (ExtN.of s3)) (t2.ext s3) ?_ (hM.fresh fr) fr
        rw [upd_same, Paired.len hp2]
        rfl
end
/-! ### count -/
abbrev sCount : Stmt := top 47
theorem scCount : FnScope ["memory", "numbers", "lists", "sentences", "number", "ask", "translation"] ["memory", "numbers", "lists"] (defScope sCount) := ⟨rfl, rfl, rfl, by decide +kernel, rfl, by decide +kernel, by decide +kernel⟩
section
variable {P : Program} {w : World} {K : PySem.W.Frag} {mg : Str → Option Value} {base : Heap} {C Pt zf : Addr}
theorem ok_count {f : Addr} {fd : FuncData} (F : Fun K "count" "count" sCount f fd) (T : ClsM K C) (G : Glob mg) :
    FnOk P w K mg base CX0 14 f fd ["memory", "numbers", "lists"] (spDeed zf C Pt 8) := by
  refine F.ok scCount (fun vs H Q E h => ?_) (fun cdv A outer s H vs Q E hr h => ⟨_, pss_cons (ps_set (i := 3) scCount.nd rfl (Or.inl rfl) (pe_lst pa_nil))
    (pss_cons (ps_for PassesOwn.never rfl (pi_list (pe_fld (pv 0) rfl)) (pg_tup rfl (pgs_cons (pg_name (i := 4) scCount.nd rfl (Or.inl rfl)) (pgs_cons (pg_name (i := 5) scCount.nd rfl (Or.inl rfl)) (pgs_cons (pg_name (i := 6) scCount.nd rfl (Or.inl rfl)) pgs_nil))))
      (pss_one (ps_if (pt_cmpR (op_notInD (u65 hr)) (pe_ix ix_tup (pv 5) pe_int (fun _ _ => rfl)) (pv 3) rfl)
        (pss_one (ps_expr (pe_bm PySem.F.plainAttrs_list PySem.F.slot_list_append PySem.F.type_list_append mt_append (pv 3) (pa_cons (pe_ix ix_tup (pv 5) pe_int (fun _ _ => rfl)) pa_nil)))) pss_nil)))
    (pss_one (ps_ret (pe_lst (pa_cons (pe_len G (pe_fld (pv 0) rfl)) (pa_cons (pe_len G (pv 3)) (pa_cons (pe_fld (pv 0) rfl) pa_nil))))))), ?_⟩)
  · obtain ⟨_, _, _, _, _, _, _, _, rfl, _⟩ := h
    rfl
  · obtain ⟨m, p, nA, lA, g, nums, rows, x, rfl, hM, hG, hT, hN, hR, lo, S, hx, lr, la, k⟩ := h
    cases S with
    | count =>
      have ex := Option.some.inj hx
      subst ex
      have big := sizeBig
      have most := hG.now.most
      obtain ⟨dx, e, h1, _, hE⟩ := hM.ents
      obtain ⟨xs, hxs, hp⟩ := hE.ex
      have lx := Paired.len hp
      refine ⟨(by show 0 ≤ sizeLine; decide), fun q hq => ?_⟩
      have s1 : ∀ u, Same H (upd H q u) := fun u => same_new hq
      refine ⟨_, rfl, m, C, dx, _, _, rfl, s1 _ _ _ h1, T.cl, T.nE, mF_e _ _ _, e, rfl, ⟨_, SqL.of (s1 _ _ _ hxs)⟩, for_list (K := K) (a := e) (xs := xs) (fun i σ' H' => ∃ (v4 v5 v6 : Option V) (ys : List V), σ' = [some (.ref m), some (.ref nA), some (.ref lA), some (.ref q), v4, v5, v6] ∧ H' = upd H q (.lst ys) ∧
          Paired (SentV H) ys (TM.different ((g.entries.map fun e => e.source).take i)))
        ⟨none, none, none, [], rfl, rfl, .nil⟩ (fun i σ' H' _ ⟨_, _, _, ys, _, eh, _⟩ => by rw [eh]; exact SqL.of (s1 _ _ _ hxs)) ?_ ?_⟩
      · rintro i x σ' H' hi ⟨v4, v5, v6, ys, rfl, rfl, py⟩
        obtain ⟨y, hy', hF⟩ := Paired.atL hp hi
        obtain ⟨t, a1, r1, rfl, g1, g2, g3⟩ := hF.ex
        obtain ⟨s, f1, f2⟩ := g2.ex
        have hs : (g.entries.map fun e => e.source)[i]? = some y.source := by rw [List.getElem?_map, hy']; rfl
        have step := TM.different_more hs
        have ly := Paired.len py
        have ld := TM.different_len ((g.entries.map fun e => e.source).take i)
        rw [List.length_take, List.length_map] at ld
        refine ⟨t, _, rfl, SqT.of (s1 _ _ _ g1), rfl, _, _, rfl, _, _, rfl, _, _, rfl, rfl, ?_⟩
        refine ⟨_, rfl, a1, _, _, _, rfl, rfl, SqT.of (s1 _ _ _ f1), at_of (j := 3) rfl rfl, _, rfl, sD y.source, _, sD_at (f2.same (s1 _)), sents_dp ⟨ys, upd_same, Paired.mono (fun v z hz => hz.ext (ExtN.of (s1 _))) py⟩, (sD_nice _).shaped (by decide), (sents_nice _).shaped (by decide), _, rfl, ?_⟩
        rw [any_sD]
        by_cases c : y.source ∈ TM.different ((g.entries.map fun e => e.source).take i)
        · rw [decide_eq_true c]
          refine iteF ⟨some (nV y.number), some (.ref a1), some (.ref r1), ys, rfl, rfl, ?_⟩
          rw [step]
          unfold TM.difTurn
          rw [if_pos c]
          exact py
        · rw [decide_eq_false c]
          refine iteT ⟨_, rfl, .inl ⟨rfl, _, SqL.of upd_same⟩, _, rfl, a1, _, _, _, rfl, rfl, SqT.of (s1 _ _ _ f1), at_of (j := 3) rfl rfl, q, ys, _, rfl, rfl, upd_same, by omega, ?_⟩
          refine ⟨some (nV y.number), some (.ref a1), some (.ref r1), ys ++ [.ref s], rfl, by rw [upd_upd], ?_⟩
          rw [step]
          unfold TM.difTurn
          rw [if_neg c]
          exact Paired.snoc ⟨s, rfl, f2⟩ py
      · rintro σ' H' ⟨v4, v5, v6, ys, rfl, rfl, py⟩
        rw [lx, show g.entries.length = (g.entries.map fun e => e.source).length from (List.length_map ..).symm, List.take_length] at py
        have ly := Paired.len py
        refine ⟨_, rfl, m, C, dx, _, _, rfl, s1 _ _ _ h1, T.cl, T.nE, mF_e _ _ _, e, _, rfl, .inl (SqL.of (s1 _ _ _ hxs)), _, rfl, q, _, rfl, .inl (SqL.of upd_same), _, rfl, m, C, dx, _, _, rfl, s1 _ _ _ h1, T.cl, T.nF, mF_f _ _ _, (by show 3 ≤ sizeLine; decide), fun r hr => ?_⟩
        have est : Ut03.step g .count = (g, Ut03.ints [g.entries.length, (TM.different (g.entries.map fun e => e.source)).length, g.given]) := by
          show (g, Ut03.ints [g.entries.length, (g.entries.map fun e => e.source).eraseDups.length, g.given]) = _
          rw [TM.different_is]
        rw [est] at k
        have := quiet (ans := Ut03.ints [g.entries.length, (TM.different (g.entries.map fun e => e.source)).length, g.given]) hM (ExtN.of (s1 (.lst ys))) (hT.ext (s1 _)) hr k
        rw [← lx, ← ly] at this
        exact this
end
/-! ### entry_told -/
abbrev sEntry : Stmt := top 46
theorem scEntry : FnScope ["memory", "numbers", "lists", "entries", "number", "ask", "translation", "ahead", "behind", "client", "sentence"] ["memory", "numbers", "lists"] (defScope sEntry) := ⟨rfl, rfl, rfl, by decide +kernel, rfl, by decide +kernel, by decide +kernel⟩
theorem find_head {l : List Ent} {n : Nat} : (l.find? fun e => e.number == n) = (l.filter fun e => e.number == n).head? := (List.head?_filter ..).symm
section
variable {P : Program} {w : World} {K : PySem.W.Frag} {mg : Str → Option Value} {base : Heap} {C Pt zf : Addr}
theorem ok_entry {f : Addr} {fd : FuncData} (F : Fun K "entry_told" "entry_told" sEntry f fd) (G : Glob mg) (DW : Dep P w K mg base 1 "entries_with" ["memory", "number"] (spWithN zf C)) (DT : Dep P w K mg base 1 "told" ["sentence"] spTold) :
    FnOk P w K mg base CX0 14 f fd ["memory", "numbers", "lists"] (spDeed zf C Pt 7) := by
  refine F.ok scEntry (fun vs H Q E h => ?_) (fun cdv A outer s H vs Q E hr h => ⟨_, pss_cons (ps_set (i := 3) scEntry.nd rfl (Or.inl rfl) (pe_dep DW hr rfl (pa_cons (pv 0) (pa_cons (pe_ix ix_list (pv 1) pe_int (fun _ _ => rfl)) pa_nil))))
    (pss_cons (ps_if (pt_cmpR (op_eqD hr.units) (pv 3) (pe_lst pa_nil) (nomark _)) (pss_one (ps_ret (pe_lst (pa_cons (pe_gl G.no_entry rfl) pa_nil)))) pss_nil)
    (pss_cons (ps_asg (pe_ix ix_list (pv 3) pe_int (fun _ _ => rfl)) (pg_tup rfl (pgs_cons (pg_name (i := 4) scEntry.nd rfl (Or.inl rfl)) (pgs_cons (pg_name (i := 5) scEntry.nd rfl (Or.inl rfl)) (pgs_cons (pg_name (i := 6) scEntry.nd rfl (Or.inl rfl)) pgs_nil)))))
    (pss_cons (ps_asg (pv 5) (pg_tup rfl (pgs_cons (pg_name (i := 7) scEntry.nd rfl (Or.inl rfl)) (pgs_cons (pg_name (i := 8) scEntry.nd rfl (Or.inl rfl)) (pgs_cons (pg_name (i := 9) scEntry.nd rfl (Or.inl rfl)) (pgs_cons (pg_name (i := 10) scEntry.nd rfl (Or.inl rfl)) pgs_nil))))))
    (pss_one (ps_ret (pe_op op_cat (pe_op op_cat (pe_lst (pa_cons (pv 7) (pa_cons (pv 8) (pa_cons (pv 9) pa_nil)))) (pe_dep DT hr rfl (pa_cons (pv 10) pa_nil))) (pe_dep DT hr rfl (pa_cons (pv 6) pa_nil)))))))), ?_⟩)
  · obtain ⟨_, _, _, _, _, _, _, _, rfl, _⟩ := h
    rfl
  · obtain ⟨m, p, nA, lA, g, nums, rows, x, rfl, hM, hG, hT, hN, hR, lo, S, hx, lr, la, k⟩ := h
    cases S with
    | entry n =>
      have ex := Option.some.inj hx
      subst ex
      have big := sizeBig
      have hN0 := (hN.same core_sub)
      have most := hG.now.most
      refine ⟨_, rfl, _, rfl, nA, _, _, nV n, rfl, rfl, hN0.sq, at_of (j := 0) rfl rfl, m, p, g, n, rfl, hM, by omega, fun H1 a s1 _ hE => ?_⟩
      refine ⟨_, rfl, (by show 0 ≤ sizeLine; decide), fun b hb => ?_⟩
      have s2 : Same H1 (upd H1 b (.lst [])) := same_new hb
      have s12 := s1.trans s2
      have hE2 := entsExt hE (ExtN.of s2)
      obtain ⟨d1, d2, d3⟩ := ents_nil_rd (K := K) hE2
      refine ⟨_, _, d1, nil_rd upd_same, d2, nice_nil.shaped (by decide), _, rfl, ?_⟩
      rw [d3]
      have est0 : Ut03.step g (.entry n) = (g, match (g.entries.filter fun e => e.number == n).head? with
        | none => [-2]
        | some e => Ut03.ints ([e.ahead, e.behind, e.client, e.source.length] ++ e.source ++ (e.target.length :: e.target))) := by
        show (g, match g.entries.find? fun e => e.number == n with | none => [-2] | some e => _) = _
        rw [find_head]
      have mem : ∀ e ∈ (g.entries.filter fun e => e.number == n), e ∈ g.entries := fun e he => (List.mem_filter.mp he).1
      generalize (g.entries.filter fun e => e.number == n) = fl at hE hE2 d1 d2 d3 est0 mem
      cases fl with
      | nil =>
        rw [est0] at k
        exact iteT ⟨(by show 1 ≤ sizeLine; decide), fun r hr => quiet (ans := [-2]) hM (ExtN.of s12) (hT.ext s12) hr k⟩
      | cons e fl =>
        rw [est0] at k
        have wd := (hG.now.each e (mem e (List.mem_cons_self ..))).2
        obtain ⟨xs, hxs, hp⟩ := hE2.ex
        obtain ⟨v, hv, hF⟩ := Paired.at_ (i := 0) (y := e) hp rfl
        obtain ⟨t, a1, r1, rfl, g1, g2, g3⟩ := hF.ex
        obtain ⟨s, f1, f2⟩ := g2.ex
        have l1 := wd.s2
        have l2 := wd.t2
        refine iteF ⟨_, rfl, a, _, _, _, rfl, rfl, SqL.of hxs, at_of (j := 0) rfl hv, t, _, rfl, SqT.of g1, rfl, _, _, rfl, _, _, rfl, _, _, rfl, rfl, ?_⟩
        refine ⟨_, rfl, a1, _, rfl, SqT.of f1, rfl, _, _, rfl, _, _, rfl, _, _, rfl, _, _, rfl, rfl, ?_⟩
        refine ⟨_, rfl, _, rfl, _, rfl, (by show 3 ≤ sizeLine; decide), fun c hc => ?_⟩
        have s3 : Same (upd H1 b (.lst [])) (upd (upd H1 b (.lst [])) c (.lst [nV e.ahead, nV e.behind, nV e.client])) := same_new hc
        refine ⟨_, rfl, s, e.source, rfl, f2.same s3, by show e.source.length ≤ 10000; omega, fun H4 c4 s4 n4 hS4 => ?_⟩
        refine ⟨c, c4, _, _, rfl, rfl, s4 _ _ upd_same, hS4.at_, by rw [List.length_map, List.length_cons]; show 3 + (e.source.length + 1) ≤ _; omega, fun c5 h5 => ?_⟩
        have s5 : Same H4 (upd H4 c5 (.lst ([nV e.ahead, nV e.behind, nV e.client] ++ (e.source.length :: e.source).map nV))) := same_new h5
        have s345 := (s3.trans s4).trans s5
        refine ⟨_, rfl, r1, e.target, rfl, g3.same s345, by omega, fun H6 c6 s6 n6 hS6 => ?_⟩
        refine ⟨c5, c6, _, _, rfl, rfl, s6 _ _ upd_same, hS6.at_, ?_, fun c7 h7 => ?_⟩
        · rw [List.length_append, List.length_map, List.length_map, List.length_cons, List.length_cons]
          show 3 + (e.source.length + 1) + (e.target.length + 1) ≤ _
          omega
        · have sA := (s12.trans s345).trans s6
          have := quiet (ans := Ut03.ints ([e.ahead, e.behind, e.client, e.source.length] ++ e.source ++ (e.target.length :: e.target))) hM (ExtN.of sA) (hT.ext sA) h7 k
          rw [ints_nV, List.map_append, List.map_append] at this
          rw [List.map_cons]
          exact this
end
end TW

/-! The walk: put, find, best. -/
namespace TW
open PySem PySem.Spec PyProof.Rows L2 LamX
open Ut03 (Sent Ask House)
theorem nx_asg {D0 D : L2.Ends} {te : TE} {g : TG} {u : TS} {σ : L2.St} {H : Hp} (e : D0.nx = tSeq (tAsg te g) u D) (h : te σ H fun x H1 => g x σ H1 (u D)) : tNext D0 σ H := by
  unfold tNext
  rw [e]
  exact h
theorem same_ask (e : Ent) (q : Ask) : (e.source == q.source && (e.ahead == q.ahead && (e.behind == q.behind && e.client == q.client))) = decide (ownOf e = q) := by
  obtain ⟨s, a, b, c⟩ := q
  rw [Bool.eq_iff_iff, decide_eq_true_iff]
  simp only [Bool.and_eq_true, beq_iff_eq]
  unfold ownOf
  constructor
  · rintro ⟨h1, h2, h3, h4⟩
    rw [h1, h2, h3, h4]
  · intro h
    injection h with h1 h2 h3 h4
    exact ⟨h1, h2, h3, h4⟩
theorem sD_nil (t : List Nat) : PyData.eqv (sD t) (.list []) = decide (t = []) := by
  unfold sD
  rw [eqv_nil]
  cases t with
  | nil => rfl
  | cons a r => rfl
/-! ### put -/
abbrev sPut : Stmt := top 38
theorem scPut : FnScope ["memory", "numbers", "lists", "ahead", "behind", "client", "sentence", "translation", "ask", "others", "number", "entry"] ["memory", "numbers", "lists"] (defScope sPut) := ⟨rfl, rfl, rfl, by decide +kernel, rfl, by decide +kernel, by decide +kernel⟩
section
variable {P : Program} {w : World} {K : PySem.W.Frag} {mg : Str → Option Value} {base : Heap} {C Pt zf : Addr}
theorem ok_put {f : Addr} {fd : FuncData} (F : Fun K "put" "put" sPut f fd) (T : ClsM K C) (G : Glob mg) (DI : Dep P w K mg base 2 "is_ask" ["ask"] spIsAsk) (DA : Dep P w K mg base 1 "are_words" ["numbers"] spAre)
    (DB : DepM P w K mg base 1 C "become" ["self", "entries"] (spBecome zf C)) (DN : DepM P w K mg base 1 C "numbered" ["self"] (spNum zf C)) : FnOk P w K mg base CX0 14 f fd ["memory", "numbers", "lists"] (spDeed zf C Pt 0) := by
  refine F.ok scPut (fun vs H Q E h => ?_) (fun cdv A outer s H vs Q E hr h => ⟨_, pss_cons (ps_asg (pv 1) (pg_unl rfl (pgs_cons (pg_name (i := 3) scPut.nd rfl (Or.inl rfl)) (pgs_cons (pg_name (i := 4) scPut.nd rfl (Or.inl rfl)) (pgs_cons (pg_name (i := 5) scPut.nd rfl (Or.inl rfl)) pgs_nil)))))
    (pss_cons (ps_asg (pv 2) (pg_unl rfl (pgs_cons (pg_name (i := 6) scPut.nd rfl (Or.inl rfl)) (pgs_cons (pg_name (i := 7) scPut.nd rfl (Or.inl rfl)) pgs_nil))))
    (pss_cons (ps_set (i := 8) scPut.nd rfl (Or.inr rfl) (pe_tup (pa_cons (pv 3) (pa_cons (pv 4) (pa_cons (pv 5) (pa_cons (pv 6) pa_nil))))))
    (pss_cons (ps_if (PW.pt (pw_or (pt_not (pt_val (pe_dep DI hr rfl (pa_cons (pv 8) pa_nil)))) (pw_or (pt_cmpR (op_eqD hr.units) (pv 7) (pe_lst pa_nil) (nomark _)) (pw_or1 (pt_not (pt_val (pe_dep DA hr rfl (pa_cons (pv 7) pa_nil)))))))) (pss_one (ps_ret (pe_lst (pa_cons (pe_gl G.wrong rfl) pa_nil)))) pss_nil)
    (pss_cons (ps_setLc (i := 9) (own := [("entry", 11)]) (g := gName 11) rfl scPut.nd rfl rfl (sw_true rfl rfl rfl (by decide +kernel)) (pi_list (pe_fld (pv 0) rfl)) (blkOk_by (N := ["memory", "numbers", "lists", "ahead", "behind", "client", "sentence", "translation", "ask", "others", "number", "entry"]) (sc := defScope sPut) (by decide +kernel))
        (fun _ _ _ _ _ => pg_name (i := 11) scPut.nd rfl (Or.inl rfl)) (fun _ _ _ _ _ => pts_one (pt_cmpR (r := rNeD K) (op_neD hr.units) (pe_ix (r := rIxT K) ix_tup (pv 11) pe_int (fun _ _ => rfl)) (pv 8) (nomark _))) (fun _ _ _ _ _ => pv 11))
    (pss_cons (ps_if (pt_cmpR op_ge (pe_len G (pv 9)) (pe_gl G.most_entries rfl) (nomark _)) (pss_one (ps_ret (pe_lst (pa_cons (pe_gl G.too_many rfl) pa_nil)))) pss_nil)
    (pss_cons (ps_set (i := 10) scPut.nd rfl (Or.inl rfl) (pe_dm0 (pv 0) T.cl DN hr))
    (pss_cons (ps_expr (pe_dm (pv 0) T.cl DB hr (pa_cons (pe_op op_cat (pv 9) (pe_lst (pa_cons (pe_tup (pa_cons (pv 10) (pa_cons (pv 8) (pa_cons (pv 7) pa_nil)))) pa_nil))) pa_nil)))
    (pss_one (ps_ret (pe_lst (pa_cons (pv 10) (pa_cons (pe_len G (pe_fld (pv 0) rfl)) pa_nil)))))))))))), ?_⟩)
  · obtain ⟨_, _, _, _, _, _, _, _, rfl, _⟩ := h
    rfl
  · obtain ⟨m, p, nA, lA, g, nums, rows, x, rfl, hM, hG, hT, hN, hR, lo, S, hx, lr, la, k⟩ := h
    cases S with
    | put a b c st tr =>
      have ex := Option.some.inj hx
      subst ex
      have big := sizeBig
      have hN0 := hN.same core_sub
      obtain ⟨r1, r2, h1, e1, e2⟩ := two_sents hR
      have most := hG.now.most
      refine ⟨_, rfl, nA, _, rfl, hN0.sq, rfl, _, _, rfl, _, _, rfl, _, _, rfl, rfl, ?_⟩
      refine ⟨_, rfl, lA, _, rfl, SqL.of (core_sub _ _ h1), rfl, _, _, rfl, _, _, rfl, rfl, ?_⟩
      refine ⟨_, rfl, _, rfl, _, rfl, _, rfl, (by show 4 ≤ sizeLine; decide), fun qa hqa => ?_⟩
      generalize hq : (⟨st, a, b, c⟩ : Ask) = q at *
      have sq : ∀ u, Same H (upd H qa u) := fun u => same_new hqa
      obtain ⟨_, _, _, m1, m2, _⟩ := hM.ex
      have qm : qa ≠ m := (ne_of_none m1 hqa).symm
      have qp : qa ≠ p := (ne_of_none m2 hqa).symm
      have aQ : AskAt (core zf m p (upd H qa (.tup [nV a, nV b, nV c, .ref r1]))) qa q := by
        rw [← hq]
        exact ⟨r1, core_in upd_same qm qp (hM.zn hqa) (fun _ z => by cases z), e1.same (core_mono (KeepM.of (ExtN.of (sq _))))⟩
      -- refusals by what was told
      have no : ∀ H1, Same H H1 → (Ut03.askOk q = false ∨ Ut03.sentOk tr = false ∨ tr = []) → ∀ σ', tRet (tLst (tCons (tC (.int (-1))) tNil)) { nx := fun _ H' => Q .non H', rt := Q } σ' H1 := fun H1 s1 cnd σ' => by
        have est : Ut03.step g (.put q tr) = (g, [-1]) := by
          show (if Ut03.askOk q = false ∨ Ut03.sentOk tr = false ∨ tr = [] then (g, [-1]) else _) = _
          rw [if_pos cnd]
        rw [est] at k
        exact ⟨(by show 1 ≤ sizeLine; decide), fun r hr => quiet (ans := [-1]) hM (ExtN.of s1) (hT.ext s1) hr k⟩
      refine ⟨_, rfl, qa, q, rfl, ⟨aQ.ex.choose, core_sub _ _ aQ.ex.choose_spec.1, aQ.ex.choose_spec.2.same core_sub⟩, fun H1 s1 => ⟨_, rfl, ?_⟩⟩
      have s01 := (sq (.tup [nV a, nV b, nV c, .ref r1])).trans s1
      cases c1 : Ut03.askOk q with
      | false => exact iteT (iteT (no H1 s01 (.inl c1) _))
      | true =>
        refine iteF ⟨_, rfl, (by show 0 ≤ sizeLine; decide), fun b1 hb1 => ?_⟩
        have s2 : Same H1 (upd H1 b1 (.lst [])) := same_new hb1
        have s02 := s01.trans s2
        have e2' : SentAt (upd H1 b1 (.lst [])) r2 tr := (e2.same core_sub).same s02
        refine ⟨sD tr, _, sD_at e2', nil_rd upd_same, (sD_nice _).shaped (by decide), nice_nil.shaped (by decide), _, rfl, ?_⟩
        rw [sD_nil]
        by_cases c2 : tr = []
        · rw [decide_eq_true c2]
          exact iteT (iteT (no _ s02 (.inr (.inr c2)) _))
        rw [decide_eq_false c2]
        refine iteF ⟨_, rfl, r2, tr, rfl, e2', fun H3 s3 => ⟨_, rfl, ?_⟩⟩
        have s03 := s02.trans s3
        cases c3 : Ut03.sentOk tr with
        | false => exact iteT (no _ s03 (.inr (.inl c3)) _)
        | true =>
          refine iteF ?_
          have hM3 := hM.ext (ExtN.of s03)
          have hT3 := hT.ext s03
          have sc3 : Same (core zf m p (upd H qa (.tup [nV a, nV b, nV c, .ref r1]))) (core zf m p H3) := core_mono (KeepM.of (ExtN.of ((s1.trans s2).trans s3)))
          have aQ3 : AskAt (core zf m p H3) qa q := aQ.ext (ExtN.of sc3)
          have est0 : Ut03.step g (.put q tr) = if 30 ≤ (g.entries.filter fun e => !decide (ownOf e = q)).length then (g, [-5]) else
              ({ entries := (g.entries.filter fun e => !decide (ownOf e = q)) ++ [⟨g.given, q.source, tr, q.ahead, q.behind, q.client⟩], given := g.given + 1, old := g.entries :: g.old }, Ut03.ints [g.given, ((g.entries.filter fun e => !decide (ownOf e = q)) ++ [(⟨g.given, q.source, tr, q.ahead, q.behind, q.client⟩ : Ent)]).length]) := by
            show (if Ut03.askOk q = false ∨ Ut03.sentOk tr = false ∨ tr = [] then (g, [-1]) else _) = _
            rw [if_neg (by rw [c1, c3]; simp [c2])]
            have ef : (fun e : Ent => !(e.source == q.source && (e.ahead == q.ahead && (e.behind == q.behind && e.client == q.client)))) = fun e => !decide (ownOf e = q) := funext fun e => by rw [same_ask]
            simp only [ef]
            rfl
          obtain ⟨dx, e, g1, hLc, _⟩ := hM3.ents
          refine nx_asg (te := tLc (iList K (tFld K (tVar 0) "entries")) (gName 11) (tTest (tOp (rNeD K) (tOp (rIxT K) (tVar 11) (tC (V.int 1))) (tVar 8))) (tVar 11) [11]) (g := gName 9) rfl ?_
          refine lc_keep (F := fun H => EntAt (core zf m p H)) (a := e) (l := g.entries) (p := fun e => !decide (ownOf e = q)) (by show (11 : Nat) < 12; decide) (fun R r => ⟨_, rfl, m, C, dx, _, _, rfl, g1, T.cl, T.nE, mF_e _ _ _, r⟩) hLc (by omega) (fun v y D ys R hy hF hD r => ?_) (fun D ys hD hy => ?_)
          · obtain ⟨t, a1, r1', rfl, f1, f2, f3⟩ := hF.ex
            have sD' : Same H3 (upd H3 D (.lst ys)) := same_new hD
            refine ⟨_, rfl, t, _, _, _, rfl, rfl, SqT.of (sD' _ _ (core_sub _ _ f1)), at_of (j := 1) rfl rfl, _, rfl, aD (ownOf y), aD q, aD_at (f2.ext (ExtN.of fun b o z => sD' b o (core_sub b o z))), aD_at (aQ3.ext (ExtN.of fun b o z => sD' b o (core_sub b o z))), (aD_nice _).shaped (by decide), (aD_nice _).shaped (by decide), _, rfl, ?_⟩
            rw [aD_eqv]
            exact r
          · have s4 : Same H3 (upd H3 D (.lst ys)) := same_new hD
            have s04 := s03.trans s4
            have lf := List.length_filter_le (fun e : Ent => !decide (ownOf e = q)) g.entries
            have ly := Paired.len hy
            generalize hfl : (g.entries.filter fun e => !decide (ownOf e = q)) = fl at *
            refine ⟨_, rfl, D, _, rfl, .inl (SqL.of upd_same), _, _, rfl, rfl, _, rfl, ?_⟩
            by_cases c4 : 30 ≤ fl.length
            · rw [decide_eq_true (show (30 : Int) ≤ ((ys.length : Nat) : Int) by omega)]
              rw [est0, if_pos c4] at k
              exact iteT ⟨(by show 1 ≤ sizeLine; decide), fun r hr => quiet (ans := [-5]) hM (ExtN.of s04) (hT.ext s04) hr k⟩
            rw [decide_eq_false (show ¬ (30 : Int) ≤ ((ys.length : Nat) : Int) by omega)]
            rw [est0, if_neg c4] at k
            have hM4 := hM3.ext (ExtN.of s4)
            have hT4 := hT3.ext s4
            have Dm : D ≠ m := (ne_of_none g1 hD).symm
            have Dp : D ≠ p := by
              obtain ⟨_, _, _, _, g2, _⟩ := hM3.ex
              exact (ne_of_none g2 hD).symm
            obtain ⟨dx4, e4, g4, _, _⟩ := hM4.ents
            refine iteF ⟨_, rfl, m, dx4, _, rfl, g4, mF_none (by decide +kernel) (by decide +kernel) (by decide +kernel) _ _ _, m, p, g, rfl, hM4, fun H5 hM5 k5 => ?_⟩
            have kc45 : Same (core zf m p H3) (core zf m p H5) := (core_mono (zf := zf) (m := m) (p := p) (KeepM.of (ExtN.of s4))).trans (core_mono fun b o z h1 _ _ => k5 b o z h1)
            have hT5 : TabS H5 Pt qLam := hM4.tabs hT4 fun b o z h1 _ => k5 b o z h1
            obtain ⟨dx5, e5, g5, _, _⟩ := hM5.ents
            refine ⟨_, rfl, m, dx5, _, rfl, g5, mF_none (by decide +kernel) (by decide +kernel) (by decide +kernel) _ _ _, ?_⟩
            have hD5 : H5 D = some (.lst ys) := k5 _ _ upd_same Dm
            refine ⟨_, rfl, _, rfl, _, rfl, _, rfl, (by show 3 ≤ sizeLine; decide), fun t ht => ⟨(by show 1 ≤ sizeLine; decide), fun n1 hn1 => ?_⟩⟩
            have s6 : Same H5 (upd H5 t (.tup [nV g.given, .ref qa, .ref r2])) := same_new ht
            have s7 : Same _ (upd (upd H5 t (.tup [nV g.given, .ref qa, .ref r2])) n1 (.lst [.ref t])) := same_new hn1
            refine ⟨D, n1, ys, _, rfl, rfl, s7 _ _ (s6 _ _ hD5), upd_same, by show ys.length + 1 ≤ _; omega, fun n2 hn2 => ?_⟩
            have s8 : Same _ (upd (upd (upd H5 t (.tup [nV g.given, .ref qa, .ref r2])) n1 (.lst [.ref t])) n2 (.lst (ys ++ [.ref t]))) := same_new hn2
            have s678 := (s6.trans s7).trans s8
            have hM8 := hM5.ext (ExtN.of s678)
            obtain ⟨_, _, _, w1, w2, _⟩ := hM5.ex
            have tm : t ≠ m := (ne_of_none w1 ht).symm
            have tp : t ≠ p := (ne_of_none w2 ht).symm
            have n2m : n2 ≠ m := (ne_of_none (s7 _ _ (s6 _ _ w1)) hn2).symm
            have n2p : n2 ≠ p := (ne_of_none (s7 _ _ (s6 _ _ w2)) hn2).symm
            have kc8 : Same (core zf m p H3) (core zf m p (upd (upd (upd H5 t (.tup [nV g.given, .ref qa, .ref r2])) n1 (.lst [.ref t])) n2 (.lst (ys ++ [.ref t])))) := kc45.trans (core_mono (KeepM.of (ExtN.of s678)))
            have hL8 : EntsAt (core zf m p (upd (upd (upd H5 t (.tup [nV g.given, .ref qa, .ref r2])) n1 (.lst [.ref t])) n2 (.lst (ys ++ [.ref t])))) n2 (fl ++ [⟨g.given, q.source, tr, q.ahead, q.behind, q.client⟩]) := by
              refine ⟨ys ++ [.ref t], core_in upd_same n2m n2p ((hM5.ext (ExtN.of (s6.trans s7))).zn hn2) (fun _ z => by cases z), Paired.snoc ?_ (Paired.mono (fun v z hz => hz.ext (ExtN.of kc8)) hy)⟩
              refine ⟨t, qa, r2, rfl, core_in ((s7.trans s8) _ _ upd_same) tm tp (hM5.zn ht) (fun _ z => by cases z), aQ3.ext (ExtN.of kc8), ?_⟩
              exact (e2.same (core_mono (KeepM.of (ExtN.of s03)))).same kc8
            refine ⟨m, p, n2, _, fl ++ [⟨g.given, q.source, tr, q.ahead, q.behind, q.client⟩], rfl, hM8, hL8, lo, fun H9 hM9 k9 => ?_⟩
            have hT8 := hT5.ext s678
            have hT9 : TabS H9 Pt qLam := hM8.tabs hT8 k9
            obtain ⟨dx9, e9, g9, hL9, _⟩ := hM9.ents
            obtain ⟨xs9, hx9, hp9⟩ := hL9.ex
            refine ⟨_, rfl, _, rfl, m, C, dx9, _, _, rfl, g9, T.cl, T.nE, mF_e _ _ _, e9, _, rfl, .inl (SqL.of hx9), (by show 2 ≤ sizeLine; decide), fun r hr => ?_⟩
            have s10 : Same H9 (upd H9 r (.lst [nV g.given, V.int ((xs9.length : Nat) : Int)])) := same_new hr
            have kp : KeepM m p H H9 := fun b o z h1 h2 _ => k9 b o (s678 b o (k5 b o (s04 b o z) h1)) h1 h2
            have fr := fresh_keep hM9 kp hr
            refine k _ r (kp.trans (KeepM.of (ExtN.of s10))) (hM9.ext (ExtN.of s10)) (hT9.ext s10) ?_ (hM.fresh fr) fr
            rw [upd_same, Paired.len hp9]
            rfl
end
end TW

/-! The walk: find, best, way_told. -/
namespace TW
open PySem PySem.Spec PyProof.Rows L2 LamX
open Ut03 (Sent Ask House)
theorem good_sized {g : House} (G : TM.Good g) {q : Ask} (h : Ut03.askOk q = true) : Sized g.entries q := by
  have a := TM.askOk_of h
  exact ⟨fun e he => by have := (G.now.each e he).2.s2; omega, by have := G.now.most; omega, by omega⟩
theorem found_len {g : House} (G : TM.Good g) (q : Ask) (least : Nat) : (TM.foundM g.entries q least).length ≤ 30 := by
  have := TM.foundM_len g.entries q least
  have := G.now.most
  omega
/-! ### find -/
abbrev sFind : Stmt := top 40
theorem scFind : FnScope ["memory", "numbers", "lists", "least", "ahead", "behind", "client", "ask", "rows", "answer", "points", "number", "translation"] ["memory", "numbers", "lists"] (defScope sFind) := ⟨rfl, rfl, rfl, by decide +kernel, rfl, by decide +kernel, by decide +kernel⟩
section
variable {P : Program} {w : World} {K : PySem.W.Frag} {mg : Str → Option Value} {base : Heap} {C Pt zf : Addr}
theorem ok_find {f : Addr} {fd : FuncData} (F : Fun K "find" "find" sFind f fd) (T : ClsM K C) (G : Glob mg) (DI : Dep P w K mg base 2 "is_ask" ["ask"] spIsAsk) (DF : Dep P w K mg base 9 "found_ones" ["entries", "ask", "least"] (spFound Pt)) :
    FnOk P w K mg base CX0 14 f fd ["memory", "numbers", "lists"] (spDeed zf C Pt 2) := by
  refine F.ok scFind (fun vs H Q E h => ?_) (fun cdv A outer s H vs Q E hr h => ⟨_, pss_cons (ps_asg (pv 1) (pg_unl rfl (pgs_cons (pg_name (i := 3) scFind.nd rfl (Or.inl rfl)) (pgs_cons (pg_name (i := 4) scFind.nd rfl (Or.inl rfl)) (pgs_cons (pg_name (i := 5) scFind.nd rfl (Or.inl rfl)) (pgs_cons (pg_name (i := 6) scFind.nd rfl (Or.inl rfl)) pgs_nil))))))
    (pss_cons (ps_set (i := 7) scFind.nd rfl (Or.inl rfl) (pe_tup (pa_cons (pv 4) (pa_cons (pv 5) (pa_cons (pv 6) (pa_cons (pe_ix ix_list (pv 2) pe_int (fun _ _ => rfl)) pa_nil))))))
    (pss_cons (ps_if (PW.pt (pw_or (pt_not (pt_val (pe_dep DI hr rfl (pa_cons (pv 7) pa_nil)))) (pw_or1 (pt_cmpR op_gt (pv 3) (pe_gl G.most_least rfl) (nomark _))))) (pss_one (ps_ret (pe_lst (pa_cons (pe_gl G.wrong rfl) pa_nil)))) pss_nil)
    (pss_cons (ps_set (i := 8) scFind.nd rfl (Or.inl rfl) (pe_dep DF hr rfl (pa_cons (pe_fld (pv 0) rfl) (pa_cons (pv 7) (pa_cons (pv 3) pa_nil)))))
    (pss_cons (ps_set (i := 9) scFind.nd rfl (Or.inl rfl) (pe_lst (pa_cons (pe_len G (pv 8)) pa_nil)))
    (pss_cons (ps_for PassesOwn.never rfl (pi_list (pv 8)) (pg_tup rfl (pgs_cons (pg_name (i := 10) scFind.nd rfl (Or.inl rfl)) (pgs_cons (pg_name (i := 11) scFind.nd rfl (Or.inl rfl)) (pgs_cons (pg_name (i := 12) scFind.nd rfl (Or.inl rfl)) pgs_nil))))
      (pss_one (ps_expr (pe_bm PySem.F.plainAttrs_list PySem.F.slot_list_extend PySem.F.type_list_extend mt_extend (pv 9) (pa_cons (pe_lst (pa_cons (pv 10) (pa_cons (pv 11) pa_nil))) pa_nil)))))
    (pss_one (ps_ret (pv 9)))))))), ?_⟩)
  · obtain ⟨_, _, _, _, _, _, _, _, rfl, _⟩ := h
    rfl
  · obtain ⟨m, p, nA, lA, g, nums, rows, x, rfl, hM, hG, hT, hN, hR, lo, S, hx, lr, la, k⟩ := h
    cases S with
    | find least a b c st =>
      have ex := Option.some.inj hx
      subst ex
      have big := sizeBig
      have hN0 := hN.same core_sub
      obtain ⟨r1, h1, e1⟩ := one_sent hR
      have e1 := e1.same core_sub
      have h1 := core_sub _ _ h1
      refine ⟨_, rfl, nA, _, rfl, hN0.sq, rfl, _, _, rfl, _, _, rfl, _, _, rfl, _, _, rfl, rfl, ?_⟩
      refine ⟨_, rfl, _, rfl, _, rfl, _, rfl, lA, _, _, _, rfl, rfl, SqL.of h1, at_of (j := 0) rfl rfl, (by show 4 ≤ sizeLine; decide), fun qa hqa => ?_⟩
      generalize hq : (⟨st, a, b, c⟩ : Ask) = q at *
      have sq : Same H (upd H qa (.tup [nV a, nV b, nV c, .ref r1])) := same_new hqa
      have aQ : AskAt (upd H qa (.tup [nV a, nV b, nV c, .ref r1])) qa q := by
        rw [← hq]
        exact ⟨r1, upd_same, e1.same sq⟩
      have no : ∀ H1, Same H H1 → (Ut03.askOk q = false ∨ 102 < least) → ∀ σ', tRet (tLst (tCons (tC (.int (-1))) tNil)) { nx := fun _ H' => Q .non H', rt := Q } σ' H1 := fun H1 s1 cnd σ' => by
        have est : Ut03.step g (.find least q) = (g, [-1]) := by
          show (g, if Ut03.askOk q = false ∨ 102 < least then [-1] else _) = _
          rw [if_pos cnd]
        rw [est] at k
        exact ⟨(by show 1 ≤ sizeLine; decide), fun r hr => quiet (ans := [-1]) hM (ExtN.of s1) (hT.ext s1) hr k⟩
      refine ⟨_, rfl, qa, q, rfl, aQ, fun H1 s1 => ⟨_, rfl, ?_⟩⟩
      have s01 := sq.trans s1
      cases c1 : Ut03.askOk q with
      | false => exact iteT (iteT (no H1 s01 (.inl c1) _))
      | true =>
        refine iteF ⟨_, rfl, _, _, rfl, rfl, _, rfl, ?_⟩
        by_cases c2 : 102 < least
        · rw [decide_eq_true (show (102 : Int) < ((least : Nat) : Int) by omega)]
          exact iteT (no H1 s01 (.inr c2) _)
        rw [decide_eq_false (show ¬ (102 : Int) < ((least : Nat) : Int) by omega)]
        have hM1 := hM.ext (ExtN.of s01)
        obtain ⟨dx, e, g1, _, hE⟩ := hM1.ents
        refine iteF ⟨_, rfl, m, C, dx, _, _, rfl, g1, T.cl, T.nE, mF_e _ _ _, _, rfl, _, rfl, e, qa, g.entries, q, least, rfl, hE, aQ.ext (ExtN.of s1), good_sized hG c1, hT.ext s01, fun H2 pr x2 t2 f2 hRows => ?_⟩
        obtain ⟨xs, hxs, hp⟩ := hRows.ex
        have lx := Paired.len hp
        have x02 := ExtN.trans (ExtN.of s01) x2
        have hf := TM.found_is hG.now.rise q least
        have l30 := found_len hG q least
        generalize TM.foundM g.entries q least = fnd at hRows hp lx hf l30
        refine ⟨_, rfl, pr, _, rfl, .inl (SqL.of hxs), (by show 1 ≤ sizeLine; decide), fun an han => ?_⟩
        have s3 : ∀ u, Same H2 (upd H2 an u) := fun u => same_new han
        refine ⟨_, rfl, pr, rfl, ⟨_, SqL.of (s3 _ _ _ hxs)⟩, for_list (K := K) (a := pr) (xs := xs) (fun i σ' H' => ∃ (v10 v11 v12 : Option V), σ' = [some (.ref m), some (.ref nA), some (.ref lA), some (nV least), some (nV a), some (nV b), some (nV c), some (.ref qa), some (.ref pr), some (.ref an), v10, v11, v12] ∧
            (∀ b o, H2 b = some o → H' b = some o) ∧ H' an = some (.lst ((fnd.length :: (fnd.take i).flatMap fun x => [x.1, x.2.number]).map nV)))
          ⟨none, none, none, rfl, s3 _, by rw [upd_same, lx]; rfl⟩ (fun i σ' H' _ ⟨_, _, _, _, s4, _⟩ => SqL.of (s4 _ _ hxs)) ?_ ?_⟩
        · rintro i x σ' H' hi ⟨v10, v11, v12, rfl, s4, ha4⟩
          obtain ⟨y, hy', hF⟩ := Paired.atL hp hi
          obtain ⟨t, tr, rfl, f1, f3⟩ := hF.ex
          have li : i < fnd.length := (List.getElem?_eq_some_iff.mp hy').1
          refine ⟨t, _, rfl, SqT.of (s4 _ _ f1), rfl, _, _, rfl, _, _, rfl, _, _, rfl, rfl, ?_⟩
          refine ⟨_, rfl, .inl ⟨rfl, _, SqL.of ha4⟩, _, rfl, _, rfl, (by show 2 ≤ sizeLine; decide), fun nw hnw => ?_⟩
          have s5 : Same H' (upd H' nw (.lst [nV y.1, nV y.2.number])) := same_new hnw
          have lfl : ((fnd.take i).flatMap fun x : TM.Row => [x.1, x.2.number]).length ≤ 60 := by
            have e6 : ∀ l : List TM.Row, (l.flatMap fun x : TM.Row => [x.1, x.2.number]).length = 2 * l.length := fun l => by
              induction l with
              | nil => rfl
              | cons z l ih =>
                rw [List.flatMap_cons, List.length_append, ih]
                simp only [List.length_cons, List.length_nil]
                omega
            rw [e6, List.length_take]
            omega
          refine ⟨an, nw, _, _, rfl, rfl, s5 _ _ ha4, upd_same, ?_, ?_⟩
          · rw [List.length_map, List.length_cons]
            show _ + 1 + 2 ≤ _
            omega
          · refine ⟨some (nV y.1), some (nV y.2.number), some (.ref tr), rfl, fun b o z => ?_, ?_⟩
            · have := s5 _ _ (s4 b o z)
              by_cases hb : b = an
              · rw [hb, han] at z; cases z
              · rw [upd_ne hb]; exact this
            · rw [upd_same, take_more hy', List.flatMap_append, List.map_cons, List.map_cons, List.map_append]
              rfl
        · rintro σ' H' ⟨v10, v11, v12, rfl, s4, ha4⟩
          rw [lx, List.take_length] at ha4
          have est : Ut03.step g (.find least q) = (g, Ut03.ints (fnd.length :: fnd.flatMap fun x => [x.1, x.2.number])) := by
            show (g, if Ut03.askOk q = false ∨ 102 < least then [-1] else _) = _
            rw [if_neg (by rw [c1]; simp; omega), ← hf]
            rfl
          rw [est] at k
          have x04 := ExtN.trans x02 (ExtN.of s4)
          have fr : Fresh H an := Fresh.of x02 han
          exact ⟨_, rfl, k H' an (KeepM.of x04) (hM.ext x04) (t2.ext s4) (by rw [ints_nV]; exact ha4) (hM.fresh fr) fr⟩
end
/-! ### best -/
abbrev sBest : Stmt := top 41
theorem scBest : FnScope ["memory", "numbers", "lists", "ahead", "behind", "client", "ask", "points", "number", "translation"] ["memory", "numbers", "lists"] (defScope sBest) := ⟨rfl, rfl, rfl, by decide +kernel, rfl, by decide +kernel, by decide +kernel⟩
section
variable {P : Program} {w : World} {K : PySem.W.Frag} {mg : Str → Option Value} {base : Heap} {C Pt zf : Addr}
theorem ok_best {f : Addr} {fd : FuncData} (F : Fun K "best" "best" sBest f fd) (T : ClsM K C) (G : Glob mg) (DI : Dep P w K mg base 2 "is_ask" ["ask"] spIsAsk) (DF : Dep P w K mg base 9 "found_ones" ["entries", "ask", "least"] (spFound Pt))
    (DT : Dep P w K mg base 1 "told" ["sentence"] spTold) : FnOk P w K mg base CX0 14 f fd ["memory", "numbers", "lists"] (spDeed zf C Pt 3) := by
  refine F.ok scBest (fun vs H Q E h => ?_) (fun cdv A outer s H vs Q E hr h => ⟨_, pss_cons (ps_asg (pv 1) (pg_unl rfl (pgs_cons (pg_name (i := 3) scBest.nd rfl (Or.inl rfl)) (pgs_cons (pg_name (i := 4) scBest.nd rfl (Or.inl rfl)) (pgs_cons (pg_name (i := 5) scBest.nd rfl (Or.inl rfl)) pgs_nil)))))
    (pss_cons (ps_set (i := 6) scBest.nd rfl (Or.inl rfl) (pe_tup (pa_cons (pv 3) (pa_cons (pv 4) (pa_cons (pv 5) (pa_cons (pe_ix ix_list (pv 2) pe_int (fun _ _ => rfl)) pa_nil))))))
    (pss_cons (ps_if (pt_not (pt_val (pe_dep DI hr rfl (pa_cons (pv 6) pa_nil)))) (pss_one (ps_ret (pe_lst (pa_cons (pe_gl G.wrong rfl) pa_nil)))) pss_nil)
    (pss_cons (ps_if (pt_cmpR (op_eqD hr.units) (pe_fld (pv 0) rfl) (pe_lst pa_nil) (nomark _)) (pss_one (ps_ret (pe_lst (pa_cons (pe_gl G.empty rfl) pa_nil)))) pss_nil)
    (pss_cons (ps_asg (pe_ix ix_list (pe_dep DF hr rfl (pa_cons (pe_fld (pv 0) rfl) (pa_cons (pv 6) (pa_cons pe_int pa_nil)))) pe_int (fun _ _ => rfl)) (pg_tup rfl (pgs_cons (pg_name (i := 7) scBest.nd rfl (Or.inl rfl)) (pgs_cons (pg_name (i := 8) scBest.nd rfl (Or.inl rfl)) (pgs_cons (pg_name (i := 9) scBest.nd rfl (Or.inl rfl)) pgs_nil)))))
    (pss_one (ps_ret (pe_op op_cat (pe_lst (pa_cons (pv 7) (pa_cons (pv 8) pa_nil))) (pe_dep DT hr rfl (pa_cons (pv 9) pa_nil))))))))), ?_⟩)
  · obtain ⟨_, _, _, _, _, _, _, _, rfl, _⟩ := h
    rfl
  · obtain ⟨m, p, nA, lA, g, nums, rows, x, rfl, hM, hG, hT, hN, hR, lo, S, hx, lr, la, k⟩ := h
    cases S with
    | best a b c st =>
      have ex := Option.some.inj hx
      subst ex
      have big := sizeBig
      have hN0 := hN.same core_sub
      obtain ⟨r1, h1, e1⟩ := one_sent hR
      have e1 := e1.same core_sub
      have h1 := core_sub _ _ h1
      refine ⟨_, rfl, nA, _, rfl, hN0.sq, rfl, _, _, rfl, _, _, rfl, _, _, rfl, rfl, ?_⟩
      refine ⟨_, rfl, _, rfl, _, rfl, _, rfl, lA, _, _, _, rfl, rfl, SqL.of h1, at_of (j := 0) rfl rfl, (by show 4 ≤ sizeLine; decide), fun qa hqa => ?_⟩
      generalize hq : (⟨st, a, b, c⟩ : Ask) = q at *
      have sq : Same H (upd H qa (.tup [nV a, nV b, nV c, .ref r1])) := same_new hqa
      have aQ : AskAt (upd H qa (.tup [nV a, nV b, nV c, .ref r1])) qa q := by
        rw [← hq]
        exact ⟨r1, upd_same, e1.same sq⟩
      refine ⟨_, rfl, qa, q, rfl, aQ, fun H1 s1 => ⟨_, rfl, ?_⟩⟩
      have s01 := sq.trans s1
      cases c1 : Ut03.askOk q with
      | false =>
        have est : Ut03.step g (.best q) = (g, [-1]) := by
          show (g, if Ut03.askOk q = false then [-1] else _) = _
          rw [if_pos c1]
        rw [est] at k
        exact iteT ⟨(by show 1 ≤ sizeLine; decide), fun r hr => quiet (ans := [-1]) hM (ExtN.of s01) (hT.ext s01) hr k⟩
      | true =>
        have est0 : Ut03.step g (.best q) = (g, match TM.foundM g.entries q 0 with
          | [] => [-6]
          | x :: _ => Ut03.ints ([x.1, x.2.number, x.2.target.length] ++ x.2.target)) := by
          show (g, if Ut03.askOk q = false then [-1] else match Ut03.found g.entries q 0 with | [] => [-6] | x :: _ => _) = _
          rw [if_neg (by rw [c1]; decide), ← TM.found_is hG.now.rise q 0]
          rfl
        have hM1 := hM.ext (ExtN.of s01)
        obtain ⟨dx, e, g1, _, hE⟩ := hM1.ents
        refine iteF ⟨_, rfl, m, C, dx, _, _, rfl, g1, T.cl, T.nE, mF_e _ _ _, (by show 0 ≤ sizeLine; decide), fun b1 hb1 => ?_⟩
        have s2 : Same H1 (upd H1 b1 (.lst [])) := same_new hb1
        have s02 := s01.trans s2
        obtain ⟨d1, d2, d3⟩ := ents_nil_rd (K := K) (entsExt hE (ExtN.of s2))
        refine ⟨_, _, d1, nil_rd upd_same, d2, nice_nil.shaped (by decide), _, rfl, ?_⟩
        rw [d3]
        cases hem : g.entries.isEmpty with
        | true =>
          have e0 : g.entries = [] := List.isEmpty_iff.mp hem
          rw [est0, e0, TM.foundM_nil] at k
          exact iteT ⟨(by show 1 ≤ sizeLine; decide), fun r hr => quiet (ans := [-6]) hM (ExtN.of s02) (hT.ext s02) hr k⟩
        | false =>
          have ne0 : g.entries ≠ [] := fun z => by rw [z] at hem; cases hem
          have hM2 := hM.ext (ExtN.of s02)
          obtain ⟨dx2, e2, g2, _, hE2⟩ := hM2.ents
          refine iteF ⟨_, rfl, m, C, dx2, _, _, rfl, g2, T.cl, T.nE, mF_e _ _ _, _, rfl, e2, qa, g.entries, q, 0, rfl, hE2, aQ.ext (ExtN.of (s1.trans s2)), good_sized hG c1, hT.ext s02, fun H3 pr x3 t3 f3 hRows => ?_⟩
          have x03 := ExtN.trans (ExtN.of s02) x3
          have hmem : ∀ x ∈ TM.foundM g.entries q 0, x.2 ∈ g.entries := fun x hx => (TM.foundM_mem hx).1
          have hns := TM.foundM_some q ne0
          rw [est0] at k
          generalize TM.foundM g.entries q 0 = fnd at hRows k hmem hns
          cases fnd with
          | nil => exact absurd rfl hns
          | cons y fl =>
            obtain ⟨xs, hxs, hp⟩ := hRows.ex
            obtain ⟨v, hv, hF⟩ := Paired.at_ (i := 0) (y := y) hp rfl
            obtain ⟨t, tr, rfl, f1, f4⟩ := hF.ex
            have wd := (hG.now.each y.2 (hmem y (List.mem_cons_self ..))).2
            have l2 := wd.t2
            refine ⟨pr, _, _, _, rfl, rfl, SqL.of hxs, at_of (j := 0) rfl hv, t, _, rfl, SqT.of f1, rfl, _, _, rfl, _, _, rfl, _, _, rfl, rfl, ?_⟩
            refine ⟨_, rfl, _, rfl, (by show 2 ≤ sizeLine; decide), fun c4 hc4 => ?_⟩
            have s4 : Same H3 (upd H3 c4 (.lst [nV y.1, nV y.2.number])) := same_new hc4
            refine ⟨_, rfl, tr, y.2.target, rfl, f4.same s4, by omega, fun H5 c5 s5 n5 hS5 => ?_⟩
            refine ⟨c4, c5, _, _, rfl, rfl, s5 _ _ upd_same, hS5.at_, by rw [List.length_map, List.length_cons]; show 2 + (y.2.target.length + 1) ≤ _; omega, fun r hr => ?_⟩
            have x05 := ExtN.trans x03 (ExtN.of (s4.trans s5))
            have := quiet (ans := Ut03.ints ([y.1, y.2.number, y.2.target.length] ++ y.2.target)) hM x05 (t3.ext (s4.trans s5)) hr k
            rw [ints_nV, List.map_append] at this
            exact this
end
end TW

/-! The walk: way_told, with_word. -/
namespace TW
open PySem PySem.Spec PyProof.Rows L2 LamX
open Ut03 (Sent Ask House)
theorem gn_asg {i : Nat} {v : V} {σ : L2.St} {H : Hp} {te : TE} {g : TG} {u : TS} {D : L2.Ends} (h : te (σ.set i (some v)) H fun x H1 => g x (σ.set i (some v)) H1 (u D)) : gName i v σ H (tSeq (tAsg te g) u D) := h
/-! ### way_told -/
abbrev sWayT : Stmt := top 42
theorem scWayT : FnScope ["memory", "numbers", "lists", "entries", "sentence", "steps"] ["memory", "numbers", "lists"] (defScope sWayT) := ⟨rfl, rfl, rfl, by decide +kernel, rfl, by decide +kernel, by decide +kernel⟩
theorem way_len (a b : Sent) : (Ut03.way a b).length ≤ a.length + b.length + 1 := by
  rw [TM.way_is]
  exact TM.steps_len a b _ _ _
section
variable {P : Program} {w : World} {K : PySem.W.Frag} {mg : Str → Option Value} {base : Heap} {C Pt zf : Addr}
theorem ok_wayT {f : Addr} {fd : FuncData} (F : Fun K "way_told" "way_told" sWayT f fd) (G : Glob mg) (DW : Dep P w K mg base 1 "entries_with" ["memory", "number"] (spWithN zf C)) (DA : Dep P w K mg base 1 "are_words" ["numbers"] spAre)
    (DY : Dep P w K mg base 3 "way" ["one", "other"] spWay) (DD : Dep P w K mg base 3 "distance" ["one", "other"] spDist) : FnOk P w K mg base CX0 14 f fd ["memory", "numbers", "lists"] (spDeed zf C Pt 4) := by
  refine F.ok scWayT (fun vs H Q E h => ?_) (fun cdv A outer s H vs Q E hr h => ⟨_, pss_cons (ps_set (i := 3) scWayT.nd rfl (Or.inl rfl) (pe_dep DW hr rfl (pa_cons (pv 0) (pa_cons (pe_ix ix_list (pv 1) pe_int (fun _ _ => rfl)) pa_nil))))
    (pss_cons (ps_if (pt_cmpR (op_eqD hr.units) (pv 3) (pe_lst pa_nil) (nomark _)) (pss_one (ps_ret (pe_lst (pa_cons (pe_gl G.no_entry rfl) pa_nil)))) pss_nil)
    (pss_cons (ps_if (pt_not (pt_val (pe_dep DA hr rfl (pa_cons (pe_ix ix_list (pv 2) pe_int (fun _ _ => rfl)) pa_nil)))) (pss_one (ps_ret (pe_lst (pa_cons (pe_gl G.wrong rfl) pa_nil)))) pss_nil)
    (pss_cons (ps_set (i := 4) scWayT.nd rfl (Or.inl rfl) (pe_ix ix_tup (pe_ix ix_tup (pe_ix ix_list (pv 3) pe_int (fun _ _ => rfl)) pe_int (fun _ _ => rfl)) pe_int (fun _ _ => rfl)))
    (pss_cons (ps_set (i := 5) scWayT.nd rfl (Or.inl rfl) (pe_dep DY hr rfl (pa_cons (pv 4) (pa_cons (pe_ix ix_list (pv 2) pe_int (fun _ _ => rfl)) pa_nil))))
    (pss_one (ps_ret (pe_op op_cat (pe_lst (pa_cons (pe_dep DD hr rfl (pa_cons (pv 4) (pa_cons (pe_ix ix_list (pv 2) pe_int (fun _ _ => rfl)) pa_nil))) (pa_cons (pe_len G (pv 5)) pa_nil))) (pv 5)))))))), ?_⟩)
  · obtain ⟨_, _, _, _, _, _, _, _, rfl, _⟩ := h
    rfl
  · obtain ⟨m, p, nA, lA, g, nums, rows, x, rfl, hM, hG, hT, hN, hR, lo, S, hx, lr, la, k⟩ := h
    cases S with
    | way n st =>
      have ex := Option.some.inj hx
      subst ex
      have big := sizeBig
      have hN0 := hN.same core_sub
      obtain ⟨rs, h1, e1⟩ := one_sent hR
      have e1 := e1.same core_sub
      have h1 := core_sub _ _ h1
      have most := hG.now.most
      refine ⟨_, rfl, _, rfl, nA, _, _, nV n, rfl, rfl, hN0.sq, at_of (j := 0) rfl rfl, m, p, g, n, rfl, hM, by omega, fun H1 a s1 _ hE => ?_⟩
      refine ⟨_, rfl, (by show 0 ≤ sizeLine; decide), fun b hb => ?_⟩
      have s2 : Same H1 (upd H1 b (.lst [])) := same_new hb
      have s12 := s1.trans s2
      have hE2 := entsExt hE (ExtN.of s2)
      obtain ⟨d1, d2, d3⟩ := ents_nil_rd (K := K) hE2
      refine ⟨_, _, d1, nil_rd upd_same, d2, nice_nil.shaped (by decide), _, rfl, ?_⟩
      rw [d3]
      have est0 : Ut03.step g (.way n st) = (g, match (g.entries.filter fun e => e.number == n).head? with
        | none => [-2]
        | some e => if Ut03.sentOk st = false then [-1] else Ut03.ints ([Ut03.price (Ut03.way e.source st), (Ut03.way e.source st).length] ++ Ut03.way e.source st)) := by
        show (g, match g.entries.find? fun e => e.number == n with | none => [-2] | some e => _) = _
        rw [find_head]
      have mem : ∀ e ∈ (g.entries.filter fun e => e.number == n), e ∈ g.entries := fun e he => (List.mem_filter.mp he).1
      generalize (g.entries.filter fun e => e.number == n) = fl at hE hE2 d1 d2 d3 est0 mem
      cases fl with
      | nil =>
        rw [est0] at k
        exact iteT ⟨(by show 1 ≤ sizeLine; decide), fun r hr => quiet (ans := [-2]) hM (ExtN.of s12) (hT.ext s12) hr k⟩
      | cons e fl =>
        rw [est0] at k
        have wd := (hG.now.each e (mem e (List.mem_cons_self ..))).2
        obtain ⟨xs, hxs, hp⟩ := hE2.ex
        obtain ⟨v, hv, hF⟩ := Paired.at_ (i := 0) (y := e) hp rfl
        obtain ⟨t, a1, r1, rfl, g1, g2, g3⟩ := hF.ex
        obtain ⟨s, f1, f2⟩ := g2.ex
        have l1 := wd.s2
        refine iteF ⟨_, rfl, lA, _, _, _, rfl, rfl, SqL.of (s12 _ _ h1), at_of (j := 0) rfl rfl, rs, st, rfl, e1.same s12, fun H3 s3 => ⟨_, rfl, ?_⟩⟩
        have s13 := s12.trans s3
        cases c1 : Ut03.sentOk st with
        | false =>
          have k' : ∀ H' a, KeepM m p H H' → MemAt zf C H' m p g → TabS H' Pt qLam → H' a = some (.lst ([(-1 : Int)].map V.int)) → a ≠ p → Fresh H a → Q (.ref a) H' := fun H' a x1 x2 x3 x4 => by
            refine k H' a x1 x2 x3 ?_
            show H' a = some (.lst ((if Ut03.sentOk st = false then [-1] else _).map V.int))
            rw [if_pos c1]
            exact x4
          exact iteT ⟨(by show 1 ≤ sizeLine; decide), fun r hr => quiet (ans := [-1]) hM (ExtN.of s13) (hT.ext s13) hr k'⟩
        | true =>
          have ls := TM.sentOk_len c1
          have k' : ∀ H' a, KeepM m p H H' → MemAt zf C H' m p g → TabS H' Pt qLam → H' a = some (.lst ((Ut03.ints ([Ut03.distance e.source st, (Ut03.way e.source st).length] ++ Ut03.way e.source st)).map V.int)) → a ≠ p → Fresh H a → Q (.ref a) H' := fun H' a x1 x2 x3 x4 => by
            refine k H' a x1 x2 x3 ?_
            show H' a = some (.lst ((if Ut03.sentOk st = false then [-1] else Ut03.ints ([Ut03.price (Ut03.way e.source st), (Ut03.way e.source st).length] ++ Ut03.way e.source st)).map V.int))
            rw [if_neg (by rw [c1]; decide), TM.price_way]
            exact x4
          refine iteF ⟨_, rfl, a, _, _, _, rfl, rfl, SqL.of (s3 _ _ hxs), at_of (j := 0) rfl hv, t, _, _, _, rfl, rfl, SqT.of (s3 _ _ g1), at_of (j := 1) rfl rfl, a1, _, _, _, rfl, rfl, SqT.of (s3 _ _ f1), at_of (j := 3) rfl rfl, ?_⟩
          have f2' : SentAt H3 s e.source := f2.same s3
          refine ⟨_, rfl, _, rfl, lA, _, _, _, rfl, rfl, SqL.of (s13 _ _ h1), at_of (j := 0) rfl rfl, s, rs, e.source, st, rfl, f2', e1.same s13, by omega, by omega, fun H4 yw s4 n4 hS4 => ?_⟩
          have s14 := s13.trans s4
          refine ⟨_, rfl, _, rfl, lA, _, _, _, rfl, rfl, SqL.of (s14 _ _ h1), at_of (j := 0) rfl rfl, s, rs, e.source, st, rfl, f2'.same s4, e1.same s14, by omega, fun H5 s5 => ?_⟩
          have s15 := s14.trans s5
          refine ⟨_, rfl, yw, _, rfl, .inl (hS4.same s5).sq, (by show 2 ≤ sizeLine; decide), fun c6 hc6 => ?_⟩
          have s6 : Same H5 (upd H5 c6 (.lst [nV (Ut03.distance e.source st), V.int ((((Ut03.way e.source st).map nV).length : Nat) : Int)])) := same_new hc6
          have lw := way_len e.source st
          refine ⟨_, rfl, c6, yw, _, _, rfl, rfl, upd_same, ((hS4.same s5).same s6).at_, by rw [List.length_map]; show 2 + (Ut03.way e.source st).length ≤ _; omega, fun r hr => ?_⟩
          have := quiet (ans := Ut03.ints ([Ut03.distance e.source st, (Ut03.way e.source st).length] ++ Ut03.way e.source st)) hM (ExtN.of (s15.trans s6)) (hT.ext (s15.trans s6)) hr k'
          rw [ints_nV, List.map_append, List.length_map] at this
          rw [List.length_map]
          exact this
end
/-! ### with_word -/
abbrev sWith : Stmt := top 43
theorem scWith : FnScope ["memory", "numbers", "lists", "word", "rows", "row", "having", "answer", "entry"] ["memory", "numbers", "lists"] (defScope sWith) := ⟨rfl, rfl, rfl, by decide +kernel, rfl, by decide +kernel, by decide +kernel⟩
section
variable {X : Cx} {o e : Expr} {to te : TE} {apos cpos : Pos}
/-- o.count(e), in a comprehension too -/
theorem pe_count {K : PySem.W.Frag} (hK : X.K = K) (ho : PE X o to) (he : PE X e te) (hs : starEach [e] X.env = (false, eval e X.env) :: starEach [] X.env := by rfl)
    (h : PA X [e] (tCons te tNil) → PE X (.Call (.Attribute o "count" apos) [e] [] cpos) (tBM X.K "list" (rCntI X.K) to (tCons te tNil))) :
    PE X (.Call (.Attribute o "count" apos) [e] [] cpos) (tBM K "list" (rCntI K) to (tCons te tNil)) := by
  subst hK
  exact h (pa_cons he pa_nil hs)
end
theorem count_cI (s : List Nat) (w : Nat) : (TM.cI s).count (w : Int) = (s.filter fun x => x == w).length := by
  induction s with
  | nil => rfl
  | cons a s ih =>
    have e : TM.cI (a :: s) = (a : Int) :: TM.cI s := rfl
    rw [e, List.count_cons, ih, List.filter_cons]
    by_cases h : a = w
    · subst h
      simp
    · have h1 : ((a : Int) == (w : Int)) = false := by
        rw [beq_eq_false_iff_ne]
        omega
      have h2 : (a == w) = false := by
        rw [beq_eq_false_iff_ne]
        exact h
      rw [h1, h2]
      rfl
theorem cI_nV (s : List Nat) : (TM.cI s).map V.int = s.map nV := by
  unfold TM.cI
  rw [List.map_map]
  rfl
/-- how often an entry has a word -/
def inSrc (w : Nat) (e : Ent) : Nat := (e.source.filter fun x => x == w).length
def inTgt (w : Nat) (e : Ent) : Nat := (e.target.filter fun x => x == w).length
structure CntAt (w : Nat) (H : Hp) (v : V) (e : Ent) : Prop where
  ex : ∃ t, v = .ref t ∧ H t = some (.tup [nV e.number, nV (inSrc w e), nV (inTgt w e)])
theorem CntAt.same {w : Nat} {H H' : Hp} {v : V} {e : Ent} (h : CntAt w H v e) (s : Same H H') : CntAt w H' v e :=
  let ⟨t, h1, h2⟩ := h.ex
  ⟨t, h1, s _ _ h2⟩
theorem has_word (s : List Nat) (w : Nat) : s.contains w = decide (0 < (s.filter fun x => x == w).length) := by
  induction s with
  | nil => rfl
  | cons a s ih =>
    rw [List.contains_cons, ih, List.filter_cons]
    by_cases h : a = w
    · subst h
      simp
    · have h2 : (a == w) = false := by
        rw [beq_eq_false_iff_ne]
        exact h
      have h3 : (w == a) = false := by
        rw [beq_eq_false_iff_ne]
        exact fun z => h z.symm
      rw [h2, h3]
      rfl
theorem having_is (w : Nat) (e : Ent) : (e.source.contains w || e.target.contains w) = decide (0 < inSrc w e + inTgt w e) := by
  rw [has_word, has_word]
  unfold inSrc inTgt
  rw [← Bool.decide_or]
  exact decide_eq_decide.mpr (by omega)
theorem flat3_len (f g h : Ent → Nat) (l : List Ent) : (l.flatMap fun e => [f e, g e, h e]).length = 3 * l.length := by
  induction l with
  | nil => rfl
  | cons z l ih =>
    rw [List.flatMap_cons, List.length_append, ih]
    simp only [List.length_cons, List.length_nil]
    omega
section
variable {P : Program} {w : World} {K : PySem.W.Frag} {mg : Str → Option Value} {base : Heap} {C Pt zf : Addr}
theorem ok_with {f : Addr} {fd : FuncData} (F : Fun K "with_word" "with_word" sWith f fd) (T : ClsM K C) (G : Glob mg) : FnOk P w K mg base CX0 14 f fd ["memory", "numbers", "lists"] (spDeed zf C Pt 5) := by
  refine F.ok scWith (fun vs H Q E h => ?_) (fun cdv A outer s H vs Q E hr h => ⟨_, pss_cons (ps_set (i := 3) scWith.nd rfl (Or.inr rfl) (pe_ix ix_list (pv 1) pe_int (fun _ _ => rfl)))
    (pss_cons (ps_setLc (i := 4) (own := [("entry", 8)]) (g := gName 8) rfl scWith.nd rfl rfl (sw_true rfl rfl rfl (by decide +kernel)) (pi_list (pe_fld (pv 0) rfl)) (blkOk_by (N := ["memory", "numbers", "lists", "word", "rows", "row", "having", "answer", "entry"]) (sc := defScope sWith) (by decide +kernel))
        (fun _ _ _ _ _ => pg_name (i := 8) scWith.nd rfl (Or.inl rfl)) (fun _ _ _ _ _ => pts_nil)
        (fun _ _ _ _ _ => pe_tup (pa_cons (pe_ix (r := rIxT K) ix_tup (pv 8) pe_int (fun _ _ => rfl))
          (pa_cons (pe_count (K := K) rfl (pe_ix (r := rIxT K) ix_tup (pe_ix (r := rIxT K) ix_tup (pv 8) pe_int (fun _ _ => rfl)) pe_int (fun _ _ => rfl)) (pv 3) (by rfl) (fun ha => pe_bm PySem.F.plainAttrs_list PySem.F.slot_list_count PySem.F.type_list_count mt_lcount (pe_ix (r := rIxT K) ix_tup (pe_ix (r := rIxT K) ix_tup (pv 8) pe_int (fun _ _ => rfl)) pe_int (fun _ _ => rfl)) ha))
          (pa_cons (pe_count (K := K) rfl (pe_ix (r := rIxT K) ix_tup (pv 8) pe_int (fun _ _ => rfl)) (pv 3) (by rfl) (fun ha => pe_bm PySem.F.plainAttrs_list PySem.F.slot_list_count PySem.F.type_list_count mt_lcount (pe_ix (r := rIxT K) ix_tup (pv 8) pe_int (fun _ _ => rfl)) ha)) pa_nil)))))
    (pss_cons (ps_setLc (i := 6) (own := [("row", 5)]) (g := gName 5) rfl scWith.nd rfl rfl (sw_true rfl rfl rfl (by decide +kernel)) (pi_list (pv 4)) (blkOk_by (N := ["memory", "numbers", "lists", "word", "rows", "row", "having", "answer", "entry"]) (sc := defScope sWith) (by decide +kernel))
        (fun _ _ _ _ _ => pg_name (i := 5) scWith.nd rfl (Or.inl rfl)) (fun _ _ _ _ _ => pts_one (pt_cmpR op_gt (pe_op op_add (pe_ix (r := rIxT K) ix_tup (pv 5) pe_int (fun _ _ => rfl)) (pe_ix (r := rIxT K) ix_tup (pv 5) pe_int (fun _ _ => rfl))) pe_int (nomark _))) (fun _ _ _ _ _ => pv 5))
    (pss_cons (ps_set (i := 7) scWith.nd rfl (Or.inl rfl) (pe_lst (pa_cons (pe_len G (pv 6)) pa_nil)))
    (pss_cons (ps_for PassesOwn.never rfl (pi_list (pv 6)) (pg_name (i := 5) scWith.nd rfl (Or.inl rfl))
      (pss_one (ps_expr (pe_bm PySem.F.plainAttrs_list PySem.F.slot_list_extend PySem.F.type_list_extend mt_extend (pv 7) (pa_cons (pe_callTy call_list_of rfl G.list (by decide +kernel) (pa_cons (pv 5) pa_nil)) pa_nil)))))
    (pss_one (ps_ret (pv 7))))))), ?_⟩)
  · obtain ⟨_, _, _, _, _, _, _, _, rfl, _⟩ := h
    rfl
  · obtain ⟨m, p, nA, lA, g, nums, rows, x, rfl, hM, hG, hT, hN, hR, lo, S, hx, lr, la, k⟩ := h
    cases S with
    | with_ wd =>
      have ex := Option.some.inj hx
      subst ex
      have big := sizeBig
      have hN0 := hN.same core_sub
      have most := hG.now.most
      obtain ⟨dx, e, h1, _, hE⟩ := hM.ents
      obtain ⟨xs, hxs, hp⟩ := hE.ex
      have lx := Paired.len hp
      refine ⟨_, rfl, nA, _, _, nV wd, rfl, rfl, hN0.sq, at_of (j := 0) rfl rfl, ?_⟩
      -- rows = [..]
      refine ⟨_, rfl, m, C, dx, _, _, rfl, h1, T.cl, T.nE, mF_e _ _ _, e, rfl, ⟨_, SqL.of hxs⟩, fun D hD => lc_list (K := K) (a := e) (xs := xs) (fun i H' => (∀ b u, H b = some u → H' b = some u) ∧ ∃ ys : List V, H' D = some (.lst ys) ∧ Paired (CntAt wd (sans D H')) ys (g.entries.take i))
        ⟨same_new hD, [], upd_same, .nil⟩ (fun i H' _ ⟨s1, _⟩ => SqL.of (s1 _ _ hxs)) (fun i x H' hi ⟨s1, ys, hys, hrows⟩ => ?_) (fun H2 ⟨s2, ys, hys, hrows⟩ => ?_)⟩
      · obtain ⟨y, he, hF⟩ := Paired.atL hp hi
        obtain ⟨t, ea, er, rfl, g1, g2, g3⟩ := hF.ex
        obtain ⟨so, f1, f2⟩ := g2.ex
        have f2' := (f2.same s1).sq (K := K)
        have g3' := (g3.same s1).sq (K := K)
        have li : i < g.entries.length := (List.getElem?_eq_some_iff.mp he).1
        have ly := Paired.len hrows
        rw [List.length_take] at ly
        have cS : (∃ (q : Addr) (ns : List Int) (kk : Int), V.ref so = .ref q ∧ [nV wd] = [.int kk] ∧ SqL K H' q (ns.map V.int) ∧ nV (inSrc wd y) = V.int ((ns.count kk : Nat) : Int)) := ⟨so, TM.cI y.source, (wd : Int), rfl, rfl, by rw [cI_nV]; exact f2', by rw [count_cI]; rfl⟩
        refine ⟨rfl, yes ⟨_, rfl, t, _, _, _, rfl, rfl, SqT.of (s1 _ _ g1), at_of (j := 0) rfl rfl, _, rfl, t, _, _, _, rfl, rfl, SqT.of (s1 _ _ g1), at_of (j := 1) rfl rfl, ea, _, _, _, rfl, rfl, SqT.of (s1 _ _ f1), at_of (j := 3) rfl rfl, .inl ⟨rfl, _, f2'⟩, _, rfl, so, TM.cI y.source, (wd : Int), rfl, rfl, by rw [cI_nV]; exact f2', ?_⟩⟩
        refine ⟨_, rfl, t, _, _, _, rfl, rfl, SqT.of (s1 _ _ g1), at_of (j := 2) rfl rfl, .inl ⟨rfl, _, g3'⟩, _, rfl, er, TM.cI y.target, (wd : Int), rfl, rfl, by rw [cI_nV]; exact g3', (by show 3 ≤ sizeLine; decide), fun pt hpt => ?_⟩
        rw [count_cI, count_cI]
        have pD : pt ≠ D := fun z => by rw [z, hys] at hpt; cases hpt
        have s3 : Same H' (upd H' pt (.tup [nV y.number, nV (inSrc wd y), nV (inTgt wd y)])) := same_new hpt
        refine ⟨ys, s3 _ _ hys, by omega, fun b u z => ?_, ys ++ [.ref pt], upd_same, ?_⟩
        · rw [upd_ne (ne_of_none z hD)]
          exact s3 b u (s1 b u z)
        · rw [sans_upd, take_more he]
          exact Paired.snoc ⟨pt, rfl, sans_in upd_same pD⟩ (Paired.mono (fun v x hx => hx.same (sans_mono s3)) hrows)
      · rw [lx, List.take_length] at hrows
        have hR2 : LstAt (CntAt wd) H2 D g.entries := ⟨ys, hys, Paired.mono (fun v x hx => hx.same sans_sub) hrows⟩
        -- having = [..]
        refine gn_asg (i := 4) (v := .ref D) (te := tLc (iList K (tVar 4)) (gName 5) (tTest (tOp (rI0 fun i j => .bl (decide (j < i))) (tOp (rI0 fun i j => .int (i + j)) (tOp (rIxT K) (tVar 5) (tC (.int 1))) (tOp (rIxT K) (tVar 5) (tC (.int 2)))) (tC (.int 0)))) (tVar 5) [5]) (g := gName 6) ?_
        refine lc_keep (F := CntAt wd) (a := D) (l := g.entries) (p := fun e => e.source.contains wd || e.target.contains wd) (K := K) (tl := tVar 4) (by show (5 : Nat) < 9; decide) (fun R r => ⟨_, rfl, r⟩) hR2 (by omega) (fun v y D2 zs R hy hF hD2 r => ?_) (fun D2 zs hD2 hz => ?_)
        · obtain ⟨t, rfl, g1⟩ := hF.ex
          have s3 : Same H2 (upd H2 D2 (.lst zs)) := same_new hD2
          refine ⟨_, rfl, t, _, _, _, rfl, rfl, SqT.of (s3 _ _ g1), at_of (j := 1) rfl rfl, _, rfl, t, _, _, _, rfl, rfl, SqT.of (s3 _ _ g1), at_of (j := 2) rfl rfl, _, _, rfl, rfl, _, _, rfl, rfl, _, rfl, ?_⟩
          rw [having_is] at r
          rw [show decide ((0 : Int) < ((inSrc wd y : Nat) : Int) + ((inTgt wd y : Nat) : Int)) = decide (0 < inSrc wd y + inTgt wd y) from decide_eq_decide.mpr (by omega)]
          exact r
        · have s3 : Same H2 (upd H2 D2 (.lst zs)) := same_new hD2
          have lf := List.length_filter_le (fun e : Ent => e.source.contains wd || e.target.contains wd) g.entries
          have lz := Paired.len hz
          have est : Ut03.step g (.with_ wd) = (g, Ut03.ints ((g.entries.filter fun e => e.source.contains wd || e.target.contains wd).length :: (g.entries.filter fun e => e.source.contains wd || e.target.contains wd).flatMap fun e => [e.number, inSrc wd e, inTgt wd e])) := rfl
          rw [est] at k
          generalize (g.entries.filter fun e => e.source.contains wd || e.target.contains wd) = fl at hz lf lz k
          refine ⟨_, rfl, D2, _, rfl, .inl (SqL.of upd_same), (by show 1 ≤ sizeLine; decide), fun an han => ?_⟩
          have s4 : Same (upd H2 D2 (.lst zs)) (upd (upd H2 D2 (.lst zs)) an (.lst [V.int ((zs.length : Nat) : Int)])) := same_new han
          have s24 := s3.trans s4
          refine ⟨_, rfl, D2, rfl, ⟨_, SqL.of (s4 _ _ upd_same)⟩, for_list (K := K) (a := D2) (xs := zs) (fun i σ' H' => ∃ (v : Option V), σ' = [some (.ref m), some (.ref nA), some (.ref lA), some (nV wd), some (.ref D), v, some (.ref D2), some (.ref an), none] ∧
              (∀ b u, upd H2 D2 (.lst zs) b = some u → H' b = some u) ∧ H' an = some (.lst ((fl.length :: (fl.take i).flatMap fun e => [e.number, inSrc wd e, inTgt wd e]).map nV)))
            ⟨none, rfl, s4, by rw [upd_same, lz]; rfl⟩ (fun i σ' H' _ ⟨_, _, s5, _⟩ => SqL.of (s5 _ _ upd_same)) ?_ ?_⟩
          · rintro i x σ' H' hi ⟨v, rfl, s5, ha5⟩
            obtain ⟨y, hy', hF⟩ := Paired.atL hz hi
            obtain ⟨t, rfl, g1⟩ := hF.ex
            have g1' := s5 _ _ (s3 _ _ g1)
            have li : i < fl.length := (List.getElem?_eq_some_iff.mp hy').1
            refine ⟨_, rfl, .inl ⟨rfl, _, SqL.of ha5⟩, _, rfl, t, _, rfl, .inr (SqT.of g1'), fun nw hnw => ?_⟩
            have s6 : Same H' (upd H' nw (.lst [nV y.number, nV (inSrc wd y), nV (inTgt wd y)])) := same_new hnw
            refine ⟨an, nw, _, _, rfl, rfl, s6 _ _ ha5, upd_same, ?_, ?_⟩
            · have := flat3_len (fun e => e.number) (inSrc wd) (inTgt wd) (fl.take i)
              rw [List.length_take] at this
              rw [List.length_map, List.length_cons]
              show _ + 1 + 3 ≤ _
              omega
            · refine ⟨some (.ref t), rfl, fun b u z => ?_, ?_⟩
              · have := s6 _ _ (s5 b u z)
                by_cases hb : b = an
                · rw [hb, han] at z; cases z
                · rw [upd_ne hb]; exact this
              · rw [upd_same, take_more hy', List.flatMap_append, List.map_cons, List.map_cons, List.map_append]
                rfl
          · rintro σ' H' ⟨v, rfl, s5, ha5⟩
            rw [lz, List.take_length] at ha5
            have sA : Same H H' := fun b u z => s5 b u (s3 b u (s2 b u z))
            have fr : Fresh H an := fresh_same (fun b u z => s3 b u (s2 b u z)) han
            exact ⟨_, rfl, k H' an (KeepM.of (ExtN.of sA)) (hM.ext (ExtN.of sA)) (hT.ext sA) (by rw [ints_nV]; exact ha5) (hM.fresh fr) fr⟩
end
end TW

/-! The walk: first_found, fill. -/
namespace TW
open PySem PySem.Spec PyProof.Rows L2 LamX
open Ut03 (Sent Ask House)
/-- the first that is found, by what is modelled -/
def firstOf (l : List Ent) (least : Nat) (q : Ask) : Nat × Nat := match TM.foundM l q least with
  | [] => (0, 0)
  | x :: _ => (x.1, x.2.number)
theorem filled_is {l : List Ent} (h : TM.Rising l) (least : Nat) (qs : List Ask) : Ut03.filled l least qs = qs.map (firstOf l least) := by
  unfold Ut03.filled
  refine List.map_congr_left fun q _ => ?_
  show _ = firstOf l least q
  unfold firstOf
  rw [TM.found_is h]
  cases Ut03.found l q least <;> rfl
/-- a row as data -/
def rD (x : TM.Row) : PyData := .tuple [.int (x.1 : Int), .int (x.2.number : Int), sD x.2.target]
theorem rD_nice (x : TM.Row) : Nice 2 (rD x) := nice_tuple (n := 1) fun d hd => by
  simp only [List.mem_cons, List.not_mem_nil, or_false] at hd
  rcases hd with rfl | rfl | rfl
  · exact nice_int _ _
  · exact nice_int _ _
  · exact sD_nice _
theorem rows_rd {K : PySem.W.Frag} {H : Hp} {a : Addr} {l : List TM.Row} (h : RowsAt H a l) : Dp K H (.ref a) (.list (l.map rD)) ∧ SeqAt.shaped (.list (l.map rD)) = true ∧ PyData.eqv (.list (l.map rD)) (.list []) = l.isEmpty := by
  refine ⟨lst_dp h fun v x hx => ?_, (nice_list (n := 2) fun d hd => ?_).shaped (by decide), ?_⟩
  · obtain ⟨t, r, rfl, h1, h2⟩ := hx.ex
    exact .tup (SqT.of h1) (.cons (.int _) (.cons (.int _) (.cons (sD_at h2) .nil)))
  · obtain ⟨e, _, rfl⟩ := List.mem_map.mp hd
    exact rD_nice e
  · rw [eqv_nil]
    cases l <;> rfl
/-! ### first_found -/
abbrev sFirst : Stmt := top 44
def spFirst (zf C Pt : Addr) : Sp := fun vs H Q _ => ∃ (m p o : Addr) (g : House) (q : Ask) (least : Nat), vs = [.ref m, .ref o, nV least] ∧ MemAt zf C H m p g ∧ TM.Good g ∧ AskAt H o q ∧ Ut03.askOk q = true ∧ TabS H Pt qLam ∧
  ∀ H' a, ExtN H H' → TabS H' Pt qLam → H' a = some (.lst [nV (firstOf g.entries least q).1, nV (firstOf g.entries least q).2]) → Fresh H a → Q (.ref a) H'
theorem scFirst : FnScope ["memory", "ask", "least", "rows"] ["memory", "ask", "least"] (defScope sFirst) := ⟨rfl, rfl, rfl, by decide +kernel, rfl, by decide +kernel, by decide +kernel⟩
section
variable {P : Program} {w : World} {K : PySem.W.Frag} {mg : Str → Option Value} {base : Heap} {C Pt zf : Addr}
theorem ok_first {f : Addr} {fd : FuncData} (F : Fun K "first_found" "first_found" sFirst f fd) (T : ClsM K C) (G : Glob mg) (DF : Dep P w K mg base 9 "found_ones" ["entries", "ask", "least"] (spFound Pt)) :
    FnOk P w K mg base CX0 10 f fd ["memory", "ask", "least"] (spFirst zf C Pt) := by
  refine F.ok scFirst (fun vs H Q E h => ?_) (fun cdv A outer s H vs Q E hr h => ⟨_, pss_cons (ps_set (i := 3) scFirst.nd rfl (Or.inl rfl) (pe_dep DF hr rfl (pa_cons (pe_fld (pv 0) rfl) (pa_cons (pv 1) (pa_cons (pv 2) pa_nil)))))
    (pss_cons (ps_if (pt_cmpR (op_eqD hr.units) (pv 3) (pe_lst pa_nil) (nomark _)) (pss_one (ps_ret (pe_lst (pa_cons pe_int (pa_cons pe_int pa_nil))))) pss_nil)
    (pss_one (ps_ret (pe_lst (pa_cons (pe_ix ix_tup (pe_ix ix_list (pv 3) pe_int (fun _ _ => rfl)) pe_int (fun _ _ => rfl)) (pa_cons (pe_ix ix_tup (pe_ix ix_list (pv 3) pe_int (fun _ _ => rfl)) pe_int (fun _ _ => rfl)) pa_nil)))))), ?_⟩)
  · obtain ⟨_, _, _, _, _, _, rfl, _⟩ := h
    rfl
  · obtain ⟨m, p, o, g, q, least, rfl, hM, hG, hQ, c1, hT, k⟩ := h
    obtain ⟨dx, e, h1, _, hE⟩ := hM.ents
    refine ⟨_, rfl, m, C, dx, _, _, rfl, h1, T.cl, T.nE, mF_e _ _ _, _, rfl, _, rfl, e, o, g.entries, q, least, rfl, hE, hQ, good_sized hG c1, hT, fun H1 pr x1 t1 f1 hR => ?_⟩
    refine ⟨_, rfl, (by show 0 ≤ sizeLine; decide), fun b hb => ?_⟩
    have s2 : Same H1 (upd H1 b (.lst [])) := same_new hb
    have hR2 := rowsExt hR (ExtN.of s2)
    obtain ⟨d1, d2, d3⟩ := rows_rd (K := K) hR2
    refine ⟨_, _, d1, nil_rd upd_same, d2, nice_nil.shaped (by decide), _, rfl, ?_⟩
    rw [d3]
    unfold firstOf at k
    generalize TM.foundM g.entries q least = fnd at hR hR2 k d1 d2 d3
    have x2 := ExtN.trans x1 (ExtN.of s2)
    cases fnd with
    | nil =>
      refine iteT ⟨(by show 2 ≤ sizeLine; decide), fun r hr0 => ?_⟩
      have s3 : Same (upd H1 b (.lst [])) (upd (upd H1 b (.lst [])) r (.lst [nV 0, nV 0])) := same_new hr0
      exact k _ r (ExtN.trans x2 (ExtN.of s3)) (t1.ext (s2.trans s3)) upd_same (Fresh.of x2 hr0)
    | cons y fl =>
      obtain ⟨xs, hxs, hp⟩ := hR2.ex
      obtain ⟨v, hv, hF⟩ := Paired.at_ (i := 0) (y := y) hp rfl
      obtain ⟨t, tr, rfl, g1, g2⟩ := hF.ex
      refine iteF ⟨_, rfl, pr, _, _, _, rfl, rfl, SqL.of hxs, at_of (j := 0) rfl hv, t, _, _, _, rfl, rfl, SqT.of g1, at_of (j := 0) rfl rfl, _, rfl, pr, _, _, _, rfl, rfl, SqL.of hxs, at_of (j := 0) rfl hv, t, _, _, _, rfl, rfl, SqT.of g1, at_of (j := 1) rfl rfl, (by show 2 ≤ sizeLine; decide), fun r hr0 => ?_⟩
      have s3 : Same (upd H1 b (.lst [])) (upd (upd H1 b (.lst [])) r (.lst [nV y.1, nV y.2.number])) := same_new hr0
      exact k _ r (ExtN.trans x2 (ExtN.of s3)) (t1.ext (s2.trans s3)) upd_same (Fresh.of x2 hr0)
end
end TW

/-! The walk: fill. -/
namespace TW
open PySem PySem.Spec PyProof.Rows L2 LamX
open Ut03 (Sent Ask House)
theorem asksIn_len : ∀ (n : Nat) (r : List Nat) (qs : List Ask) (rest : List Nat), Ut03Neutral.asksIn n r = some (qs, rest) → qs.length = n
  | 0, r, qs, rest, h => by
    have e := Option.some.inj h
    injection e with e1 _
    rw [← e1]
    rfl
  | n + 1, r, qs, rest, h => by
    have eT : Ut03Neutral.asksIn (n + 1) r = (Ut03Neutral.askIn r).bind fun x => (Ut03Neutral.asksIn n x.2).map fun y => (x.1 :: y.1, y.2) := rfl
    rw [eT] at h
    cases hk : Ut03Neutral.askIn r with
    | none => rw [hk] at h; cases h
    | some x =>
      rw [hk] at h
      have h2 : (Ut03Neutral.asksIn n x.2).map (fun y => (x.1 :: y.1, y.2)) = some (qs, rest) := h
      cases hk2 : Ut03Neutral.asksIn n x.2 with
      | none => rw [hk2] at h2; cases h2
      | some y =>
        obtain ⟨ys, t⟩ := y
        rw [hk2] at h2
        have e := Option.some.inj h2
        injection e with e1 _
        rw [← e1, List.length_cons, asksIn_len n _ _ _ hk2]
theorem tabs_upd {H : Hp} {Pt a : Addr} {q : Str} {xs : List V} {u : HO} (t : TabS H Pt q) (h : H a = some (.lst xs)) : TabS (upd H a u) Pt q := by
  obtain ⟨ps, t1, t2, t3⟩ := t
  refine ⟨ps, by rw [upd_ne (ne_of t1 h (by intro z; cases z))]; exact t1, t2, fun pos cv hc => ?_⟩
  obtain ⟨c, e1, e2⟩ := t3 pos cv hc
  exact ⟨c, e1, by rw [upd_ne (ne_of e2 h (by intro z; unfold CodeO at z; cases z))]; exact e2⟩
theorem extN_upd {H H' : Hp} {a : Addr} {u : HO} (x : ExtN H H') (h : H a = none) : ExtN H (upd H' a u) := fun b o q n => by
  rw [upd_ne (ne_of_none q h)]
  exact x b o q n
theorem flat2_len {α : Type} (f g : α → Nat) (l : List α) : (l.flatMap fun x => [f x, g x]).length = 2 * l.length := by
  induction l with
  | nil => rfl
  | cons z l ih =>
    rw [List.flatMap_cons, List.length_append, ih]
    simp only [List.length_cons, List.length_nil]
    omega
theorem all_bool (l : List Ask) : (l.map fun q => Ut03.askOk q).all id = l.all Ut03.askOk := by
  rw [List.all_map]
  rfl
/-! ### fill -/
abbrev sFill : Stmt := top 45
theorem scFill : FnScope ["memory", "numbers", "lists", "least", "many", "asks", "ask", "answer", "points"] ["memory", "numbers", "lists"] (defScope sFill) := ⟨rfl, rfl, rfl, by decide +kernel, rfl, by decide +kernel, by decide +kernel⟩
section
variable {P : Program} {w : World} {K : PySem.W.Frag} {mg : Str → Option Value} {base : Heap} {C Pt zf : Addr}
theorem ok_fill {f : Addr} {fd : FuncData} (F : Fun K "fill" "fill" sFill f fd) (T : ClsM K C) (G : Glob mg) (DI : Dep P w K mg base 2 "is_ask" ["ask"] spIsAsk) (DA : Dep P w K mg base 1 "asks_in" ["many", "numbers"] spAsks)
    (DF : Dep P w K mg base 10 "first_found" ["memory", "ask", "least"] (spFirst zf C Pt)) : FnOk P w K mg base CX0 14 f fd ["memory", "numbers", "lists"] (spDeed zf C Pt 6) := by
  refine F.ok scFill (fun vs H Q E h => ?_) (fun cdv A outer s H vs Q E hr h => ⟨_, pss_cons (ps_asg (pv 1) (pg_unl rfl (pgs_cons (pg_name (i := 3) scFill.nd rfl (Or.inl rfl)) (pgs_cons (pg_name (i := 4) scFill.nd rfl (Or.inl rfl)) pgs_nil))))
    (pss_cons (ps_if (PW.pt (pw_or (pt_cmpR op_gt (pv 4) (pe_gl G.most_asks rfl) (nomark _)) (pw_or1 (pt_cmpR op_gt (pv 3) (pe_gl G.most_least rfl) (nomark _))))) (pss_one (ps_ret (pe_lst (pa_cons (pe_gl G.wrong rfl) pa_nil)))) pss_nil)
    (pss_cons (ps_set (i := 5) scFill.nd rfl (Or.inl rfl) (pe_dep DA hr rfl (pa_cons (pv 4) (pa_cons (pe_ix ix_list (pv 2) pe_int (fun _ _ => rfl)) pa_nil))))
    (pss_cons (ps_if (pt_not (pt_val (pe_callB (cr_all rfl) rfl G.all (by decide +kernel) (pa_cons (pe_lc (own := [("ask", 6)]) (g := gName 6) rfl scFill.nd (pi_list (pv 5)) (blkOk_by (N := ["memory", "numbers", "lists", "least", "many", "asks", "ask", "answer", "points"]) (sc := defScope sFill) (by decide +kernel))
        (fun _ _ _ _ _ => pg_name (i := 6) scFill.nd rfl (Or.inl rfl)) (fun _ _ _ _ _ => pts_nil) (fun _ _ _ _ _ => pe_dep DI hr (by rfl) (pa_cons (pv 6) pa_nil))) pa_nil)))) (pss_one (ps_ret (pe_lst (pa_cons (pe_gl G.wrong rfl) pa_nil)))) pss_nil)
    (pss_cons (ps_set (i := 7) scFill.nd rfl (Or.inl rfl) (pe_lst pa_nil))
    (pss_cons (ps_for PassesOwn.never rfl (pi_list (pv 5)) (pg_name (i := 6) scFill.nd rfl (Or.inl rfl))
      (pss_one (ps_expr (pe_bm PySem.F.plainAttrs_list PySem.F.slot_list_extend PySem.F.type_list_extend mt_extend (pv 7) (pa_cons (pe_dep DF hr rfl (pa_cons (pv 0) (pa_cons (pv 6) (pa_cons (pv 3) pa_nil)))) pa_nil)))))
    (pss_one (ps_ret (pe_op op_cat (pe_lst (pa_cons (pe_len G (pe_lc (own := [("points", 8)]) (g := gName 8) rfl scFill.nd (pi_list (pe_evenL (pv 7))) (blkOk_by (N := ["memory", "numbers", "lists", "least", "many", "asks", "ask", "answer", "points"]) (sc := defScope sFill) (by decide +kernel))
        (fun _ _ _ _ _ => pg_name (i := 8) scFill.nd rfl (Or.inl rfl)) (fun _ _ _ _ _ => pts_one (pt_cmpR op_gt (pv 8) pe_int (nomark _))) (fun _ _ _ _ _ => pv 8))) pa_nil)) (pv 7))))))))), ?_⟩)
  · obtain ⟨_, _, _, _, _, _, _, _, rfl, _⟩ := h
    rfl
  · obtain ⟨m, p, nA, lA, g, nums, rows, x, rfl, hM, hG, hT, hN, hR, lo, S, hx, lr, la, k⟩ := h
    cases S with
    | fill least many r =>
      have big := sizeBig
      have hN0 := hN.same core_sub
      obtain ⟨r1, h1, e1⟩ := one_sent hR
      have e1 := e1.same core_sub
      have h1 := core_sub _ _ h1
      have hx2 : (if r.length < many then none else (Ut03Neutral.asksIn many r).bind fun x => if x.2 = [] then some (Ut03.Call.fill least x.1) else none) = some x := hx
      by_cases hlt : r.length < many
      · rw [if_pos hlt] at hx2; cases hx2
      rw [if_neg hlt] at hx2
      cases hI : Ut03Neutral.asksIn many r with
      | none => rw [hI] at hx2; cases hx2
      | some y =>
        obtain ⟨qs, rest⟩ := y
        rw [hI] at hx2
        have hx3 : (if rest = [] then some (Ut03.Call.fill least qs) else none) = some x := hx2
        have hrest : rest = [] := by
          by_cases z : rest = []
          · exact z
          · rw [if_neg z] at hx3; cases hx3
        rw [if_pos hrest] at hx3
        have ex := Option.some.inj hx3
        subst ex
        have lq := asksIn_len _ _ _ _ hI
        have lr1 := lr r (List.mem_cons_self ..)
        have no : ∀ H1, ExtN H H1 → TabS H1 Pt qLam → (10 < qs.length ∨ qs.all Ut03.askOk = false ∨ 102 < least) → ∀ σ', tRet (tLst (tCons (tC (.int (-1))) tNil)) { nx := fun _ H' => Q .non H', rt := Q } σ' H1 := fun H1 s1 t1 cnd σ' => by
          have est : Ut03.step g (.fill least qs) = (g, [-1]) := by
            show (g, if 10 < qs.length ∨ qs.all Ut03.askOk = false ∨ 102 < least then [-1] else _) = _
            rw [if_pos cnd]
          rw [est] at k
          exact ⟨(by show 1 ≤ sizeLine; decide), fun r hr => quiet (ans := [-1]) hM s1 t1 hr k⟩
        refine ⟨_, rfl, nA, _, rfl, hN0.sq, rfl, _, _, rfl, _, _, rfl, rfl, ?_⟩
        refine ⟨_, rfl, _, _, rfl, rfl, _, rfl, ?_⟩
        by_cases c2 : 10 < many
        · rw [decide_eq_true (show (10 : Int) < ((many : Nat) : Int) by omega)]
          exact iteT (iteT (no H (ExtN.of (Same.refl _)) hT (.inl (by omega)) _))
        rw [decide_eq_false (show ¬ (10 : Int) < ((many : Nat) : Int) by omega)]
        refine iteF ⟨_, rfl, _, _, rfl, rfl, _, rfl, ?_⟩
        by_cases c3 : 102 < least
        · rw [decide_eq_true (show (102 : Int) < ((least : Nat) : Int) by omega)]
          exact iteT (no H (ExtN.of (Same.refl _)) hT (.inr (.inr c3)) _)
        rw [decide_eq_false (show ¬ (102 : Int) < ((least : Nat) : Int) by omega)]
        refine iteF ⟨_, rfl, _, rfl, lA, _, _, _, rfl, rfl, SqL.of h1, at_of (j := 0) rfl rfl, many, r1, r, qs, rest, rfl, e1, by omega, hI, fun H1 qa s1 f1 hQs => ?_⟩
        obtain ⟨xs, hxs, hp⟩ := hQs.ex
        have lx := Paired.len hp
        refine ⟨_, rfl, qa, rfl, ⟨_, SqL.of hxs⟩, fun D hD => lc_list (K := K) (a := qa) (xs := xs) (fun i H' => (∀ b u, H1 b = some u → H' b = some u) ∧ H' D = some (.lst ((qs.take i).map fun q => V.bl (Ut03.askOk q))))
          ⟨same_new hD, upd_same⟩ (fun i H' _ ⟨s2, _⟩ => SqL.of (s2 _ _ hxs)) (fun i x H' hi ⟨s2, hy⟩ => ?_) (fun H2 ⟨s2, hy⟩ => ?_)⟩
        · obtain ⟨q, hq, hF⟩ := Paired.atL hp hi
          obtain ⟨t, rfl, hFq⟩ := hF.ex
          refine ⟨rfl, yes ⟨_, rfl, t, q, rfl, hFq.ext (ExtN.of s2), fun H3 s3 => ⟨_, s3 _ _ hy, ?_, fun b u z => ?_, ?_⟩⟩⟩
          · rw [List.length_map, List.length_take]
            omega
          · rw [upd_ne (ne_of_none z hD)]
            exact s3 b u (s2 b u z)
          · rw [upd_same, take_more hq, List.map_append]
            rfl
        · rw [lx, List.take_length] at hy
          refine ⟨D, qs.map fun q => Ut03.askOk q, rfl, SqL.of (by rw [hy, List.map_map]; rfl), ?_⟩
          rw [all_bool]
          have s02 : Same H H2 := fun b u z => s2 b u (s1 b u z)
          have x02 := ExtN.of s02
          have t2 := hT.ext s02
          refine ⟨_, rfl, ?_⟩
          cases c4 : qs.all Ut03.askOk with
          | false => exact iteT (no H2 x02 t2 (.inr (.inl c4)) _)
          | true =>
            refine iteF ⟨(by show 0 ≤ sizeLine; decide), fun an han => ?_⟩
            have est : Ut03.step g (.fill least qs) = (g, Ut03.ints (((qs.map (firstOf g.entries least)).filter fun y => y.1 != 0).length :: (qs.map (firstOf g.entries least)).flatMap fun y => [y.1, y.2])) := by
              show (g, if 10 < qs.length ∨ qs.all Ut03.askOk = false ∨ 102 < least then [-1] else _) = _
              rw [if_neg (by rw [c4]; simp; omega), ← filled_is hG.now.rise]
            rw [est] at k
            have hQ2 : AsksAt H2 qa qs := ⟨xs, s2 _ _ hxs, Paired.mono (fun v q hq => hq.ext (ExtN.of s2)) hp⟩
            have qn : qa ≠ an := ne_of_none (s2 _ _ hxs) han
            refine ⟨_, rfl, qa, rfl, ⟨_, SqL.of (same_new han _ _ (s2 _ _ hxs))⟩, for_list (K := K) (a := qa) (xs := xs) (fun i σ' H' => ∃ (v6 : Option V), σ' = [some (.ref m), some (.ref nA), some (.ref lA), some (nV least), some (nV many), some (.ref qa), v6, some (.ref an), none] ∧
                ExtN H2 H' ∧ TabS H' Pt qLam ∧ H' an = some (.lst (((qs.take i).flatMap fun q => [(firstOf g.entries least q).1, (firstOf g.entries least q).2]).map nV)))
              ⟨_, rfl, ExtN.of (same_new han), t2.ext (same_new han), upd_same⟩ (fun i σ' H' _ ⟨_, _, x3, _⟩ => SqL.of (x3 _ _ (s2 _ _ hxs) (fun _ z => by cases z))) ?_ ?_⟩
            · rintro i x σ' H' hi ⟨v6, rfl, x3, t3, ha3⟩
              obtain ⟨q, hq, hF⟩ := Paired.atL hp hi
              obtain ⟨t, rfl, hFq⟩ := hF.ex
              have ok : Ut03.askOk q = true := List.all_eq_true.mp c4 q (List.mem_of_getElem? hq)
              have hM3 := hM.ext (ExtN.trans x02 x3)
              refine ⟨_, rfl, .inl ⟨rfl, _, SqL.of ha3⟩, _, rfl, _, rfl, _, rfl, m, p, t, g, q, least, rfl, hM3, hG, hFq.ext (ExtN.trans (ExtN.of s2) x3), ok, t3, fun H4 nw x4 t4 hnw f4 => ?_⟩
              have ha4 := x4 _ _ ha3 (fun _ z => by cases z)
              have lfl := flat2_len (fun q => (firstOf g.entries least q).1) (fun q => (firstOf g.entries least q).2) (qs.take i)
              rw [List.length_take] at lfl
              refine ⟨an, nw, _, _, rfl, rfl, ha4, hnw, ?_, ?_⟩
              · rw [List.length_map]
                show _ + 2 ≤ _
                omega
              · refine ⟨some (.ref t), rfl, extN_upd (ExtN.trans x3 x4) han, tabs_upd t4 ha4, ?_⟩
                rw [upd_same, take_more hq, List.flatMap_append, List.map_append]
                rfl
            · rintro σ' H' ⟨v6, rfl, x3, t3, ha3⟩
              rw [lx, List.take_length] at ha3
              have x03 := ExtN.trans x02 x3
              have sq3 : SqL K H' an _ := SqL.of ha3
              refine ⟨_, rfl, an, _, rfl, sq3, fun e he => ?_⟩
              have s4 : Same H' (upd H' e (.lst (evens (((qs.flatMap fun q => [(firstOf g.entries least q).1, (firstOf g.entries least q).2]).map nV))))) := same_new he
              have ee : evens ((qs.flatMap fun q => [(firstOf g.entries least q).1, (firstOf g.entries least q).2]).map nV) = qs.map fun q => nV (firstOf g.entries least q).1 := by
                rw [List.map_flatMap]
                exact evens_flat (fun q => nV (firstOf g.entries least q).1) (fun q => nV (firstOf g.entries least q).2) qs
              rw [ee] at s4 ⊢
              have he4 : upd H' e (.lst (qs.map fun q => nV (firstOf g.entries least q).1)) e = some (.lst (qs.map fun q => nV (firstOf g.entries least q).1)) := upd_same
              generalize upd H' e (.lst (qs.map fun q => nV (firstOf g.entries least q).1)) = H4 at s4 he4 ⊢
              have an4 := s4 _ _ ha3
              refine ⟨e, rfl, ⟨_, SqL.of he4⟩, fun D2 hD2 => lc_list (K := K) (a := e) (xs := qs.map fun q => nV (firstOf g.entries least q).1) (fun i H5 => (∀ b u, H4 b = some u → H5 b = some u) ∧ H5 D2 = some (.lst ((((qs.take i).map (firstOf g.entries least)).filter fun y => y.1 != 0).map fun y => nV y.1)))
                ⟨same_new hD2, upd_same⟩ (fun i H5 _ ⟨s5, _⟩ => SqL.of (s5 _ _ he4)) (fun i x H5 hi ⟨s5, hy5⟩ => ?_) (fun H6 ⟨s6, hy6⟩ => ?_)⟩
              · rw [List.getElem?_map] at hi
                cases hq : qs[i]? with
                | none => rw [hq] at hi; cases hi
                | some q =>
                  rw [hq] at hi
                  have ex := (Option.some.inj hi).symm
                  subst ex
                  refine ⟨rfl, _, rfl, _, _, rfl, rfl, _, rfl, ?_⟩
                  rw [take_more hq, List.map_append, List.filter_append, List.map_append]
                  by_cases c6 : (firstOf g.entries least q).1 = 0
                  · rw [decide_eq_false (show ¬ (0 : Int) < (((firstOf g.entries least q).1 : Nat) : Int) by omega)]
                    refine iteF ⟨s5, ?_⟩
                    have e7 : ([q].map (firstOf g.entries least)).filter (fun y => y.1 != 0) = [] := by simp [c6]
                    rw [e7, List.map_nil, List.append_nil]
                    exact hy5
                  · rw [decide_eq_true (show (0 : Int) < (((firstOf g.entries least q).1 : Nat) : Int) by omega)]
                    have lf := List.length_filter_le (fun y : Nat × Nat => y.1 != 0) ((qs.take i).map (firstOf g.entries least))
                    rw [List.length_map, List.length_take] at lf
                    refine iteT ⟨_, rfl, _, hy5, by rw [List.length_map]; omega, fun b u z => ?_, ?_⟩
                    · rw [upd_ne (ne_of_none z hD2)]
                      exact s5 b u z
                    · have e7 : ([q].map (firstOf g.entries least)).filter (fun y => y.1 != 0) = [firstOf g.entries least q] := by simp [c6]
                      rw [upd_same, e7]
                      rfl
              · rw [List.length_map, List.take_length] at hy6
                have s46 : Same H' H6 := fun b u z => s6 b u (s4 b u z)
                refine ⟨D2, _, rfl, .inl (SqL.of hy6), (by show 1 ≤ sizeLine; decide), fun n1 hn1 => ?_⟩
                rw [List.length_map]
                have s7 : Same H6 (upd H6 n1 (.lst [V.int ((((qs.map (firstOf g.entries least)).filter fun y => y.1 != 0).length : Nat) : Int)])) := same_new hn1
                have lfl := flat2_len (fun q => (firstOf g.entries least q).1) (fun q => (firstOf g.entries least q).2) qs
                refine ⟨_, rfl, n1, an, _, _, rfl, rfl, upd_same, s7 _ _ (s46 _ _ ha3), by rw [List.length_map, lfl]; show 1 + 2 * qs.length ≤ _; omega, fun r0 hr0 => ?_⟩
                have x07 := ExtN.trans x03 (ExtN.of (s46.trans s7))
                have := quiet (ans := Ut03.ints (((qs.map (firstOf g.entries least)).filter fun y => y.1 != 0).length :: (qs.map (firstOf g.entries least)).flatMap fun y => [y.1, y.2])) hM x07 (t3.ext (s46.trans s7)) hr0 k
                rw [ints_nV, List.map_cons, List.flatMap_map] at this
                exact this
end
end TW

/-! The walk: lists_at, answered. -/
namespace TW
open PySem PySem.Spec PyProof.Rows L2 LamX
open Ut03 (Sent Ask House)
/-- what is new in a heap -/
def newer (H H' : Hp) : Hp := fun b => match H b with
  | none => H' b
  | some _ => none
theorem newer_in {H H' : Hp} {b : Addr} {o : HO} (h : H b = none) (e : H' b = some o) : newer H H' b = some o := by
  unfold newer
  rw [h]
  exact e
theorem newer_old {H H' : Hp} {b : Addr} {o : HO} (e : newer H H' b = some o) : H b = none ∧ H' b = some o := by
  unfold newer at e
  cases h : H b with
  | none => rw [h] at e; exact ⟨rfl, e⟩
  | some u => rw [h] at e; cases e
theorem newer_sub {H H' : Hp} : Same (newer H H') H' := fun b o e => (newer_old e).2
theorem newer_mono {H H1 H2 : Hp} (s : Same H1 H2) : Same (newer H H1) (newer H H2) := fun b o e => newer_in (newer_old e).1 (s _ _ (newer_old e).2)
theorem newer_less {H H2 H' : Hp} (s : Same H H2) : Same (newer H2 H') (newer H H') := fun b o e => newer_in (s.free (newer_old e).1) (newer_old e).2
theorem newer_upd {H H' : Hp} {p : Addr} {o u : HO} (h : H p = some u) : newer H (upd H' p o) = newer H H' := by
  funext b
  unfold newer
  by_cases e : b = p
  · rw [e, h]
  · rw [upd_ne e]
theorem newer_ne {H H' : Hp} {b c : Addr} {o u : HO} (e : newer H H' b = some o) (h : H c = some u) : b ≠ c := fun z => by
  have := (newer_old e).1
  rw [z, h] at this
  cases this
/-! ### lists_at -/
abbrev sLists : Stmt := top 56
def spLists (K : PySem.W.Frag) : Sp := fun vs H Q _ => ∃ (a : Addr) (l : List Nat) (pl k : Nat), vs = [.ref a, nV pl, nV k] ∧ SqL K H a (l.map nV) ∧ l.length ≤ 10000 ∧ TM.Fits l pl k ∧ k ≤ 1000 ∧
  ∀ H' t q, Same H H' → H' t = some (.tup [.ref q, nV (TM.listsAt l pl k).2]) → SentsAt (newer H H') q (TM.listsAt l pl k).1 → Q (.ref t) H'
theorem scLists : FnScope ["calls", "place", "many", "found", "turn", "length"] ["calls", "place", "many"] (defScope sLists) := ⟨rfl, rfl, rfl, by decide +kernel, rfl, by decide +kernel, by decide +kernel⟩
section
variable {P : Program} {w : World} {K : PySem.W.Frag} {mg : Str → Option Value} {base : Heap} {C Pt : Addr}
theorem ok_lists {f : Addr} {fd : FuncData} (F : Fun K "lists_at" "lists_at" sLists f fd) (G : Glob mg) : FnOk P w K mg base CX0 1 f fd ["calls", "place", "many"] (spLists K) := by
  refine F.ok scLists (fun vs H Q E h => ?_) (fun cdv A outer s H vs Q E hr h => ⟨_, pss_cons (ps_set (i := 3) scLists.nd rfl (Or.inl rfl) (pe_lst pa_nil))
    (pss_cons (ps_for PassesOwn.never rfl (pi_range1 rfl G.range (pa_cons (pv 2) pa_nil)) (pg_name (i := 4) scLists.nd rfl (Or.inl rfl))
      (pss_cons (ps_set (i := 5) scLists.nd rfl (Or.inl rfl) (pe_ix ix_list (pv 0) (pv 1) (fun _ _ => rfl)))
      (pss_cons (ps_expr (pe_bm PySem.F.plainAttrs_list PySem.F.slot_list_append PySem.F.type_list_append mt_append (pv 3) (pa_cons (pe_slice sl_list (pv 0) (po_some (pe_op op_add (pv 1) pe_int)) (po_some (pe_op op_add (pe_op op_add (pv 1) pe_int) (pv 5)))) pa_nil)))
      (pss_one (ps_set (i := 1) scLists.nd rfl (Or.inl rfl) (pe_op op_add (pe_op op_add (pv 1) pe_int) (pv 5)))))))
    (pss_one (ps_ret (pe_tup (pa_cons (pv 3) (pa_cons (pv 1) pa_nil)))))), ?_⟩)
  · obtain ⟨_, _, _, _, rfl, _⟩ := h
    rfl
  · obtain ⟨a, l, pl, k, rfl, hS, lL, hF, lk, kq⟩ := h
    have big := sizeBig
    refine ⟨(by show 0 ≤ sizeLine; decide), fun p hp0 => ?_⟩
    refine ⟨_, rfl, _, rfl, by omega, by omega, ?_⟩
    rw [show ((k : Nat) : Int).toNat = k by omega]
    have hpp : upd H p (.lst []) p = some (.lst []) := upd_same
    refine for_range (lo := 0) (n := k) (fun i σ' H' => ∃ (v4 v5 : Option V) (ys : List V), σ' = [some (.ref a), some (nV (TM.listsAt l pl i).2), some (nV k), some (.ref p), v4, v5] ∧ (∀ b u, H b = some u → H' b = some u) ∧ H' p = some (.lst ys) ∧
        Paired (SentV (newer (upd H p (.lst [])) H')) ys (TM.listsAt l pl i).1)
      ⟨none, none, [], rfl, same_new hp0, upd_same, .nil⟩ ?_ ?_
    · rintro i σ' H' hi ⟨v4, v5, ys, rfl, s1, hy, py⟩
      obtain ⟨f1, f2⟩ := hF i (by omega)
      have ly := Paired.len py
      have ll := TM.listsAt_len l pl i
      have el : TM.listsAt l pl (i + 1) = ((TM.listsAt l pl i).1 ++ [(l.drop ((TM.listsAt l pl i).2 + 1)).take (l.getD (TM.listsAt l pl i).2 0)], (TM.listsAt l pl i).2 + 1 + l.getD (TM.listsAt l pl i).2 0) := rfl
      rw [el]
      generalize (TM.listsAt l pl i).1 = rs at py ly ll ⊢
      generalize (TM.listsAt l pl i).2 = q at f1 f2 ⊢
      have sA := Same.seq (K := K) s1 hS
      have at0 : atI (l.map nV) ((q : Nat) : Int) = some (nV (l.getD q 0)) := at_of (j := q) (by omega) (nV_at (get_in (by omega)))
      generalize l.getD q 0 = wd at at0 f2 ⊢
      refine ⟨_, rfl, _, rfl, a, _, _, _, rfl, rfl, sA, at0, ?_⟩
      refine ⟨_, rfl, .inl ⟨rfl, _, SqL.of hy⟩, _, rfl, _, rfl, _, _, rfl, rfl, _, rfl, _, rfl, _, _, rfl, rfl, _, rfl, _, _, rfl, rfl, _, rfl, a, _, rfl, sA, fun t ht => ?_⟩
      have ecut : cutV (l.map nV) (some (((q : Nat) : Int) + 1)) (some (((q : Nat) : Int) + 1 + ((wd : Nat) : Int))) = ((l.drop (q + 1)).take wd).map nV := by
        rw [show ((q : Nat) : Int) + 1 = ((q + 1 : Nat) : Int) by omega, show ((q + 1 : Nat) : Int) + ((wd : Nat) : Int) = ((q + 1 + wd : Nat) : Int) by omega, cut_is _ _ _ (by omega) (by rw [List.length_map]; omega), show q + 1 + wd - (q + 1) = wd by omega, List.map_take, List.map_drop]
      rw [ecut]
      have s2 : Same H' (upd H' t (.lst (((l.drop (q + 1)).take wd).map nV))) := same_new ht
      have tp : t ≠ p := fun z => by rw [z, hy] at ht; cases ht
      have tn : upd H p (.lst []) t = none := by
        rw [upd_ne tp]
        cases e : H t with
        | none => rfl
        | some o => rw [s1 _ _ e] at ht; cases ht
      refine ⟨p, ys, _, rfl, rfl, s2 _ _ hy, by omega, ?_⟩
      refine ⟨_, rfl, _, _, rfl, rfl, _, rfl, _, _, rfl, rfl, ?_⟩
      refine ⟨some (V.int (0 + (i : Nat))), some (nV wd), ys ++ [.ref t], ?_, fun b o z => ?_, upd_same, ?_⟩
      · show _ = [some (.ref a), some (V.int ((q + 1 + wd : Nat) : Int)), some (nV k), some (.ref p), some (V.int (0 + (i : Nat))), some (nV wd)]
        rw [show ((q + 1 + wd : Nat) : Int) = ((q : Nat) : Int) + 1 + ((wd : Nat) : Int) by omega]
        rfl
      · rw [upd_ne (ne_of_none z hp0)]
        exact s2 _ _ (s1 b o z)
      · rw [newer_upd hpp]
        refine Paired.snoc ⟨t, rfl, newer_in tn upd_same, ?_⟩ (Paired.mono (fun v x hx => hx.ext (ExtN.of (newer_mono s2))) py)
        show ((l.drop (q + 1)).take wd).length ≤ 100000
        rw [List.length_take, List.length_drop]
        omega
    · rintro σ' H' ⟨v4, v5, ys, rfl, s1, hy, py⟩
      refine ⟨_, rfl, _, rfl, (by show 2 ≤ sizeLine; decide), fun t ht => ?_⟩
      have s2 : Same H' (upd H' t (.tup [.ref p, nV (TM.listsAt l pl k).2])) := same_new ht
      refine kq _ t p (fun b u z => s2 b u (s1 b u z)) upd_same ⟨ys, newer_in hp0 (s2 _ _ hy), Paired.mono (fun v x hx => ?_) py⟩
      exact (hx.ext (ExtN.of (newer_less (same_new hp0)))).ext (ExtN.of (newer_mono s2))
end
/-! ### answered -/
section
variable {X : Cx} {i k : Nat} {x : Str} {p pos : Pos} {e : Expr} {es : List Expr} {t : TA}
/-- a call of a local name that holds one of several defs -/
def tCallR (i : Nat) (S : Addr → Sp → Prop) (t : TA) : TE := fun σ H Q => ∃ f sp, σ[i]? = some (some (.ref f)) ∧ S f sp ∧ t σ H fun vs H1 => sp vs H1 Q E0
theorem pe_callR {S : Addr → Sp → Prop} (A : ∀ f sp, S f sp → Held X.prog X.w X.K X.mg X.base k f sp) (hr : Room k X.A) (hN : X.N[i]? = some x) (hv : Vis X.env.scope x) (ha : PA X (e :: es) t)
    (hdb : (x == ("__debug__" : Str)) = false := by decide) (hcd : (x == ("__classdict__" : Str)) = false := by decide)
    (he : starEach (e :: es) X.env = (false, eval e X.env) :: starEach es X.env := by rfl) (hpl : (backTo pos (starEach es X.env)).any (·.1) = false := by rfl) : PE X (.Call (.Name x p) (e :: es) [] pos) (tCallR i S t) := by
  refine ⟨fun pins s σ H Q I h => ?_⟩
  obtain ⟨f, sp, hs, hS, ht⟩ := h
  obtain ⟨fd, ps, F, hk, hb⟩ := (A f sp hS).ex
  refine (pe_callL (i := i) (f := f) (sp := sp) (dvs := []) (E := fun _ _ _ => False) F hr hN hv hk hb .nil (fun _ _ _ _ _ _ _ z => z.elim) ha hdb hcd he hpl).run pins s σ H Q I ⟨hs, ?_⟩
  have e0 : (fun (vs : List V) (H1 : Hp) => sp (vs ++ []) H1 Q (fun _ _ _ => False)) = fun vs H1 => sp vs H1 Q (fun _ _ _ => False) := by
    funext vs H1
    rw [List.append_nil]
  show t σ H (fun vs H1 => sp (vs ++ []) H1 Q (fun _ _ _ => False))
  rw [e0]
  exact ht
end
/-- the deeds, by their numbers -/
structure Deeds (P : Program) (w : World) (K : PySem.W.Frag) (mg : Str → Option Value) (base : Heap) (C Pt : Addr) : Prop where
  ex : ∃ (d : Addr) (ds : List Addr), Is mg "DEEDS" (.ref d) ∧ (∀ H, SqT K H d (ds.map V.ref)) ∧ ds.length = 11 ∧ ∀ n f, ds[n]? = some f → ∀ zf, Held P w K mg base 14 f (spDeed zf C Pt n)
abbrev sAnsd : Stmt := top 57
def spAnsd (C Pt : Addr) : Sp := fun vs H Q _ => ∃ (zf m nA lA : Addr) (n : Nat), vs = [.ref m, nV n, .ref nA, .ref lA] ∧ n < 11 ∧ spDeed zf C Pt n [.ref m, .ref nA, .ref lA] H Q E0
theorem scAnsd : FnScope ["memory", "word", "numbers", "lists", "deed"] ["memory", "word", "numbers", "lists"] (defScope sAnsd) := ⟨rfl, rfl, rfl, by decide +kernel, rfl, by decide +kernel, by decide +kernel⟩
section
variable {P : Program} {w : World} {K : PySem.W.Frag} {mg : Str → Option Value} {base : Heap} {C Pt : Addr}
theorem ok_ansd {f : Addr} {fd : FuncData} (F : Fun K "answered" "answered" sAnsd f fd) (DD : Deeds P w K mg base C Pt) : FnOk P w K mg base CX0 15 f fd ["memory", "word", "numbers", "lists"] (spAnsd C Pt) := by
  obtain ⟨d, ds, hd, hsq, hl, hh⟩ := DD.ex
  refine F.ok scAnsd (fun vs H Q E h => ?_) (fun cdv A outer s H vs Q E hr h => ⟨_, pss_cons (ps_set (i := 4) scAnsd.nd rfl (Or.inl rfl) (pe_ix ix_tup (pe_gl hd rfl) (pv 1) (fun _ _ => rfl)))
    (pss_one (ps_ret (pe_callR (i := 4) (k := 14) (S := fun f sp => ∃ n zf, ds[n]? = some f ∧ sp = spDeed zf C Pt n) (fun f sp hs => by obtain ⟨n, zf, h1, rfl⟩ := hs; exact hh n f h1 zf) hr rfl (Or.inl rfl) (pa_cons (pv 0) (pa_cons (pv 2) (pa_cons (pv 3) pa_nil)))))), ?_⟩)
  · obtain ⟨_, _, _, _, _, rfl, _⟩ := h
    rfl
  · obtain ⟨zf, m, nA, lA, n, rfl, hn, h⟩ := h
    obtain ⟨f, hf⟩ : ∃ f, ds[n]? = some f := ⟨_, List.getElem?_eq_getElem (by omega)⟩
    refine ⟨_, rfl, d, _, _, _, rfl, rfl, hsq _, at_of (j := n) rfl (by rw [List.getElem?_map, hf]; rfl), ?_⟩
    refine ⟨f, _, rfl, ⟨n, zf, hf, rfl⟩, _, rfl, _, rfl, _, rfl, h⟩
end
end TW

namespace TM
open Ut03 (Sent Entry Ask House)
theorem step_good {g : House} (G : Good g) (x : Ut03.Call) : Good (Ut03.step g x).1 ∧ (Ut03.step g x).1.old.length ≤ g.old.length + 1 := by
  have same : Good g ∧ g.old.length ≤ g.old.length + 1 := ⟨G, Nat.le_succ _⟩
  cases x with
  | put q t =>
    by_cases c : Ut03.askOk q = false ∨ Ut03.sentOk t = false ∨ t = []
    · have e : Ut03.step g (.put q t) = (g, [-1]) := by
        show (if Ut03.askOk q = false ∨ Ut03.sentOk t = false ∨ t = [] then (g, [-1]) else _) = _
        rw [if_pos c]
      rw [e]
      exact same
    · have e : Ut03.step g (.put q t) = if 30 ≤ (g.entries.filter fun e : Entry => !(e.source == q.source && (e.ahead == q.ahead && (e.behind == q.behind && e.client == q.client)))).length then (g, [-5]) else
          ({ entries := (g.entries.filter fun e : Entry => !(e.source == q.source && (e.ahead == q.ahead && (e.behind == q.behind && e.client == q.client)))) ++ [⟨g.given, q.source, t, q.ahead, q.behind, q.client⟩], given := g.given + 1, old := g.entries :: g.old }, Ut03.ints [g.given, ((g.entries.filter fun e : Entry => !(e.source == q.source && (e.ahead == q.ahead && (e.behind == q.behind && e.client == q.client)))) ++ [(⟨g.given, q.source, t, q.ahead, q.behind, q.client⟩ : Entry)]).length]) := by
        show (if Ut03.askOk q = false ∨ Ut03.sentOk t = false ∨ t = [] then (g, [-1]) else _) = _
        rw [if_neg c]
        rfl
      rw [e]
      by_cases c2 : 30 ≤ (g.entries.filter fun e : Entry => !(e.source == q.source && (e.ahead == q.ahead && (e.behind == q.behind && e.client == q.client)))).length
      · rw [if_pos c2]
        exact same
      · rw [if_neg c2]
        have c3 : ¬ Ut03.askOk q = false := fun z => c (.inl z)
        have c4 : ¬ Ut03.sentOk t = false := fun z => c (.inr (.inl z))
        exact ⟨good_put G (by simpa using c3) (by simpa using c4) (fun z => c (.inr (.inr z))) (by omega), Nat.le_refl _⟩
  | take n =>
    by_cases c : (g.entries.any fun e => e.number == n) = false
    · have e : Ut03.step g (.take n) = (g, [-2]) := by
        show (if (g.entries.any fun e => e.number == n) = false then (g, [-2]) else _) = _
        rw [if_pos c]
      rw [e]
      exact same
    · have e : Ut03.step g (.take n) = (Ut03.changes g (g.entries.filter fun e => e.number != n), Ut03.ints [(Ut03.changes g (g.entries.filter fun e => e.number != n)).entries.length]) := by
        show (if (g.entries.any fun e => e.number == n) = false then (g, [-2]) else _) = _
        rw [if_neg c]
      rw [e]
      exact ⟨good_take G _, Nat.le_refl _⟩
  | undo =>
    cases h : g.old with
    | nil =>
      have e : Ut03.step g .undo = (g, [-7]) := by
        show (match g.old with | [] => (g, [-7]) | l :: r => _) = _
        rw [h]
      rw [e, ← h]
      exact same
    | cons l r =>
      have e : Ut03.step g .undo = ({ g with entries := l, old := r }, Ut03.ints [l.length]) := by
        show (match g.old with | [] => (g, [-7]) | l :: r => ({ g with entries := l, old := r }, Ut03.ints [l.length])) = _
        rw [h]
      rw [e]
      refine ⟨good_undo G h, ?_⟩
      show r.length ≤ r.length + 1 + 1
      omega
  | find least q => exact same
  | best q => exact same
  | way n s => exact same
  | with_ w => exact same
  | fill least qs => exact same
  | entry n => exact same
  | count => exact same
  | near a b => exact same
theorem shape_at {p n k : Nat} (h : shapeN p = some (n, k)) : p < 11 ∧ ([3, 1, 4, 3, 1, 1, 2, 1, 0, 0, 0] : List Nat)[p]? = some n ∧ ([2, 0, 1, 1, 1, 0, 1, 0, 0, 0, 2] : List Nat)[p]? = some k := by
  unfold shapeN PyUt03.shape at h
  by_cases hp : 11 ≤ p
  · repeat rw [if_neg (by omega)] at h
    cases h
  · have key : p = 0 ∨ p = 1 ∨ p = 2 ∨ p = 3 ∨ p = 4 ∨ p = 5 ∨ p = 6 ∨ p = 7 ∨ p = 8 ∨ p = 9 ∨ p = 10 := by omega
    rcases key with rfl | rfl | rfl | rfl | rfl | rfl | rfl | rfl | rfl | rfl | rfl <;> (cases h; exact ⟨by decide, rfl, rfl⟩)
theorem Goes.pre {l : List Nat} {place : Nat} {g : House} {found all : List Int} (h : Goes l place g found all) : found.length ≤ all.length := by
  obtain ⟨f, cs, _, _, h3⟩ := h.ex
  rw [h3, List.length_append]
  omega
end TM
/-! The walk: answers. -/
namespace TW
open PySem PySem.Spec PyProof.Rows L2 LamX
open Ut03 (Sent Ask House)
theorem extN_seq {K : PySem.W.Frag} {H H' : Hp} {a : Addr} {xs : List V} (e : ExtN H H') (h : SqL K H a xs) : SqL K H' a xs := by
  rcases h with (h | ⟨o, h⟩) | h
  · exact .inl (.inl (e _ _ h (fun _ z => by cases z)))
  · exact .inl (.inr ⟨o, e _ _ h (fun _ z => by cases z)⟩)
  · exact .inr h
theorem core_upd {zf m p : Addr} {H : Hp} {o : HO} : core zf m p (upd H zf o) = core zf m p H := by
  funext b
  unfold core
  by_cases h : b = m ∨ b = p ∨ b = zf
  · rw [if_pos h, if_pos h]
  · rw [if_neg h, if_neg h, upd_ne (fun z => h (.inr (.inr z)))]
theorem MemAt.upd {zf C m p : Addr} {H : Hp} {g : House} {xs : List V} (h : MemAt zf C H m p g) (hm : zf ≠ m) : MemAt zf C (upd H zf (.lst xs)) m p g := by
  obtain ⟨z1, _⟩ := h.zz
  obtain ⟨dx, e, ps, h1, h2, h3, h4⟩ := h.ex
  exact ⟨⟨z1, _, upd_same, fun _ z => by cases z⟩, dx, e, ps, by rw [upd_ne (Ne.symm hm)]; exact h1, by rw [upd_ne (Ne.symm z1)]; exact h2, by rw [core_upd]; exact h3, by rw [core_upd]; exact h4⟩
theorem MemAt.other {zf C m p f : Addr} {H : Hp} {g : House} {xs : List V} (h : MemAt zf C H m p g) (hf : H f = none) : MemAt f C (L2.upd H f (.lst xs)) m p g := by
  obtain ⟨dx, e, ps, h1, h2, h3, h4⟩ := h.ex
  have s : Same (core zf m p H) (core f m p (L2.upd H f (.lst xs))) := fun b o q => by
    have n := core_ne q
    have hb := core_sub _ _ q
    have bf := ne_of_none hb hf
    exact core_in (by rw [upd_ne bf]; exact hb) n.1 n.2.1 bf fun ps z => core_tbl ps (z ▸ q)
  refine ⟨⟨(ne_of_none h2 hf).symm, _, upd_same, fun _ z => by cases z⟩, dx, e, ps, by rw [upd_ne (ne_of_none h1 hf)]; exact h1, by rw [upd_ne (ne_of_none h2 hf)]; exact h2, entsExt h3 (ExtN.of s), Paired.mono (fun v l hl => hl.ext (ExtN.of s)) h4⟩
theorem newer_core {zf m p : Addr} {H H' : Hp} {o1 o2 o3 : HO} (h1 : H m = some o1) (h2 : H p = some o2) (h3 : H zf = some o3) : ExtN (newer H H') (core zf m p H') := fun b o q n =>
  core_in (newer_sub _ _ q) (newer_ne q h1) (newer_ne q h2) (newer_ne q h3) n
abbrev sAns : Stmt := top 58
def spAns (K : PySem.W.Frag) (Pt : Addr) : Sp := fun vs H Q _ => ∃ (a : Addr) (l : List Nat), vs = [.ref a] ∧ SqL K H a (l.map nV) ∧ TM.small l ∧ l.length ≤ 10000 ∧ TabS H Pt qLam ∧ PyUt03.answers_asked (TM.cI l) = true ∧
  ∀ H' p, H' p = some (.lst ((PyUt03.answers (TM.cI l)).map V.int)) → Q (.ref p) H'
theorem scAns : FnScope ["calls", "memory", "found", "place", "word", "begun", "behind", "lists", "answer"] ["calls"] (defScope sAns) := ⟨rfl, rfl, rfl, by decide +kernel, rfl, by decide +kernel, by decide +kernel⟩
/-- a tuple of small numbers of the module -/
structure NumsAt (K : PySem.W.Frag) (mg : Str → Option Value) (x : Str) (l : List Nat) : Prop where
  ex : ∃ d, Is mg x (.ref d) ∧ ∀ H, SqT K H d (l.map nV)
section
variable {P : Program} {w : World} {K : PySem.W.Frag} {mg : Str → Option Value} {base : Heap} {C Pt : Addr}
theorem ok_ans {f fI : Addr} {fd fdI : FuncData} (F : Fun K "answers" "answers" sAns f fd) (G : Glob mg) (M : Mk K C fI) (FI : FnOk P w K mg base CX0 1 fI fdI ["self"] (spInit C)) (bI : Binds K fdI ["self"] []) (gC : mg "Memory" = some (.ref C))
    (NU : NumsAt K mg "NUMBERS" [3, 1, 4, 3, 1, 1, 2, 1, 0, 0, 0]) (LI : NumsAt K mg "LISTS" [2, 0, 1, 1, 1, 0, 1, 0, 0, 0, 2])
    (DL : Dep P w K mg base 1 "lists_at" ["calls", "place", "many"] (spLists K)) (DA : Dep P w K mg base 15 "answered" ["memory", "word", "numbers", "lists"] (spAnsd C Pt)) :
    FnOk P w K mg base CX0 16 f fd ["calls"] (spAns K Pt) := by
  obtain ⟨nn, gN, hNN⟩ := NU.ex
  obtain ⟨ll, gL, hLL⟩ := LI.ex
  refine F.ok scAns (fun vs H Q E h => ?_) (fun cdv A outer s H vs Q E hr h => ⟨_, pss_cons (ps_set (i := 1) scAns.nd rfl (Or.inl rfl) (pe_make0 M FI (hr.mono (by decide)) rfl gC bI .nil pass0))
    (pss_cons (ps_set (i := 2) scAns.nd rfl (Or.inl rfl) (pe_lst pa_nil))
    (pss_cons (ps_set (i := 3) scAns.nd rfl (Or.inl rfl) pe_int)
    (pss_cons (ps_while PassesOwn.never (pt_cmpR op_lt (pv 3) (pe_len G (pv 0)) (nomark _))
      (pss_cons (ps_set (i := 4) scAns.nd rfl (Or.inl rfl) (pe_ix ix_list (pv 0) (pv 3) (fun _ _ => rfl)))
      (pss_cons (ps_set (i := 5) scAns.nd rfl (Or.inl rfl) (pe_op op_add (pv 3) pe_int))
      (pss_cons (ps_set (i := 6) scAns.nd rfl (Or.inl rfl) (pe_op op_add (pv 5) (pe_ix ix_tup (pe_gl gN rfl) (pv 4) (fun _ _ => rfl))))
      (pss_cons (ps_asg (pe_dep DL hr rfl (pa_cons (pv 0) (pa_cons (pv 6) (pa_cons (pe_ix ix_tup (pe_gl gL rfl) (pv 4) (fun _ _ => rfl)) pa_nil)))) (pg_tup rfl (pgs_cons (pg_name (i := 7) scAns.nd rfl (Or.inl rfl)) (pgs_cons (pg_name (i := 3) scAns.nd rfl (Or.inl rfl)) pgs_nil))))
      (pss_cons (ps_set (i := 8) scAns.nd rfl (Or.inl rfl) (pe_dep DA hr rfl (pa_cons (pv 1) (pa_cons (pv 4) (pa_cons (pe_slice sl_list (pv 0) (po_some (pv 5)) (po_some (pv 6))) (pa_cons (pv 7) pa_nil))))))
      (pss_cons (ps_expr (pe_bm PySem.F.plainAttrs_list PySem.F.slot_list_append PySem.F.type_list_append mt_append (pv 2) (pa_cons (pe_len G (pv 8)) pa_nil)))
      (pss_one (ps_expr (pe_bm PySem.F.plainAttrs_list PySem.F.slot_list_extend PySem.F.type_list_extend mt_extend (pv 2) (pa_cons (pv 8) pa_nil)))))))))))
    (pss_one (ps_ret (pv 2)))))), ?_⟩)
  · obtain ⟨_, _, rfl, _⟩ := h
    rfl
  · obtain ⟨a, l, rfl, hS, sm, lL, hT, hask, k⟩ := h
    obtain ⟨go0, lall⟩ := TM.asked_goes hask
    generalize PyUt03.answers (TM.cI l) = all at k go0 lall
    have big : 10000001 < sizeLine := by decide
    intro m dx nm nd ne
    refine ⟨m, dx, rfl, upd_same, fun H1 p hM1 kp hp => ⟨rfl, ?_⟩⟩
    have s1 : Same H H1 := Same.made nm nd kp
    have np : H p = none := by
      cases e : H p with
      | none => rfl
      | some o =>
        rw [upd_ne (ne_of_none e nm), upd_ne (ne_of_none e nd), e] at hp
        cases hp
    refine ⟨(by show 0 ≤ sizeLine; decide), fun f hf => ?_⟩
    have nf : H f = none := s1.free hf
    have hM2 : MemAt f C (upd H1 f (.lst [])) m p Ut03.init := hM1.other hf
    have hT2 : TabS (upd H1 f (.lst [])) Pt qLam := (hT.ext s1).ext (same_new hf)
    have x2 : ExtN H (upd H1 f (.lst [])) := ExtN.of (s1.trans (same_new hf))
    have hf2 : upd H1 f (.lst []) f = some (.lst (([] : List Int).map V.int)) := upd_same
    generalize upd H1 f (.lst []) = H2 at hM2 hT2 x2 hf2
    refine ⟨fun n σ' H' => ∃ (v4 v5 v6 v7 v8 : Option V) (pl : Nat) (g : House) (fnd : List Int), n = l.length - pl ∧ σ' = [some (.ref a), some (.ref m), some (.ref f), some (nV pl), v4, v5, v6, v7, v8] ∧ pl ≤ l.length ∧ TM.Goes l pl g fnd all ∧ TM.Good g ∧ g.old.length ≤ pl ∧
      MemAt f C H' m p g ∧ TabS H' Pt qLam ∧ H' f = some (.lst (fnd.map V.int)) ∧ ExtN H H', ⟨_, none, none, none, none, none, 0, Ut03.init, [], rfl, rfl, Nat.zero_le _, go0, TM.good_init, Nat.zero_le _, hM2, hT2, hf2, x2⟩, ?_⟩
    rintro n σ' H' ⟨v4, v5, v6, v7, v8, pl, g, fnd, rfl, rfl, lpl, go, hG, lo, hM, hT, hf, hx⟩
    have sA := extN_seq (K := K) hx hS
    refine ⟨_, rfl, _, rfl, a, _, rfl, .inl sA, _, _, rfl, rfl, _, rfl, ?_⟩
    rw [List.length_map]
    by_cases c : pl < l.length
    · rw [decide_eq_true (show ((pl : Nat) : Int) < ((l.length : Nat) : Int) by omega)]
      refine iteT ⟨_, fun _ _ h => h, ?_⟩
      obtain ⟨n, kk, x, hsh, hn, hF, hSh, hx2, go2⟩ := go.turn sm (by omega) c
      obtain ⟨w11, wn, wk⟩ := TM.shape_at hsh
      obtain ⟨gd2, lo2⟩ := TM.step_good hG x
      have lk2 : kk ≤ 2 := by
        have key : ∀ z ∈ ([2, 0, 1, 1, 1, 0, 1, 0, 0, 0, 2] : List Nat), z ≤ 2 := by decide
        exact key kk (List.mem_of_getElem? wk)
      have at0 : atI (l.map nV) ((pl : Nat) : Int) = some (nV (l.getD pl 0)) := at_of (j := pl) (by omega) (nV_at (get_in (by omega)))
      have ge := TM.listsAt_ge l (pl + 1 + n) kk
      have le := TM.listsAt_le hF hn kk (Nat.le_refl _)
      have smL := TM.listsAt_small sm (pl + 1 + n) kk
      generalize l.getD pl 0 = wd at at0 hSh hx2 hsh w11 wn wk
      have atN : atI (([3, 1, 4, 3, 1, 1, 2, 1, 0, 0, 0] : List Nat).map nV) ((wd : Nat) : Int) = some (nV n) := at_of (j := wd) (by omega) (by rw [List.getElem?_map, wn]; rfl)
      have atL : atI (([2, 0, 1, 1, 1, 0, 1, 0, 0, 0, 2] : List Nat).map nV) ((wd : Nat) : Int) = some (nV kk) := at_of (j := wd) (by omega) (by rw [List.getElem?_map, wk]; rfl)
      refine ⟨_, rfl, _, rfl, a, _, _, _, rfl, rfl, sA, at0, ?_⟩
      refine ⟨_, rfl, _, _, rfl, rfl, ?_⟩
      refine ⟨_, rfl, _, rfl, nn, _, _, _, rfl, rfl, hNN _, atN, _, _, rfl, rfl, ?_⟩
      have eV : ([V.ref a, V.int (((pl : Nat) : Int) + 1 + ((n : Nat) : Int)), nV kk] : List V) = [V.ref a, nV (pl + 1 + n), nV kk] := by
        rw [show ((pl : Nat) : Int) + 1 + ((n : Nat) : Int) = ((pl + 1 + n : Nat) : Int) by omega]
      refine ⟨_, rfl, _, rfl, _, rfl, ll, _, _, _, rfl, rfl, hLL _, atL, a, l, pl + 1 + n, kk, eV, sA, lL, hF, by omega, fun H3 t q s3 ht hQ => ⟨t, _, rfl, SqT.of ht, rfl, _, _, rfl, _, _, rfl, rfl, ?_⟩⟩
      generalize (TM.listsAt l (pl + 1 + n) kk).2 = pl2 at *
      generalize (TM.listsAt l (pl + 1 + n) kk).1 = rows at *
      obtain ⟨dxm, e, ps, m1, m2, _⟩ := hM.ex
      have fm : f ≠ m := ne_of hf m1 (by intro z; cases z)
      have fp : f ≠ p := hM.zz.1
      refine ⟨_, rfl, _, rfl, _, rfl, _, rfl, _, rfl, _, rfl, _, rfl, a, _, rfl, Same.seq s3 sA, fun nA hnA => ?_⟩
      have ecut : cutV (l.map nV) (some (((pl : Nat) : Int) + 1)) (some (((pl : Nat) : Int) + 1 + ((n : Nat) : Int))) = ((l.drop (pl + 1)).take n).map nV := by
        rw [show ((pl : Nat) : Int) + 1 = ((pl + 1 : Nat) : Int) by omega, show ((pl + 1 : Nat) : Int) + ((n : Nat) : Int) = ((pl + 1 + n : Nat) : Int) by omega, cut_is _ _ _ (by omega) (by rw [List.length_map]; omega), show pl + 1 + n - (pl + 1) = n by omega, List.map_take, List.map_drop]
      rw [ecut]
      have s4 : Same H3 (upd H3 nA (.lst (((l.drop (pl + 1)).take n).map nV))) := same_new hnA
      have s34 := s3.trans s4
      have nA0 : H' nA = none := s3.free hnA
      have lnn : ((l.drop (pl + 1)).take n).length ≤ 100000 := by
        rw [List.length_take, List.length_drop]
        omega
      refine ⟨_, rfl, f, m, nA, q, wd, rfl, w11, m, p, nA, q, g, (l.drop (pl + 1)).take n, rows, x, rfl, hM.ext (ExtN.of s34), hG, hT.ext s34, ⟨core_in upd_same (ne_of_none m1 nA0).symm (ne_of_none m2 nA0).symm (ne_of_none hf nA0).symm (fun _ z => by cases z), lnn⟩, ?_, by omega, hSh, hx2, fun r hr => Nat.le_trans (smL r hr).2 lL, ?_, ?_⟩
      · have xc : ExtN (newer H' H3) (core f m p (upd H3 nA (.lst (((l.drop (pl + 1)).take n).map nV)))) := ExtN.trans (ExtN.of (newer_mono s4)) (newer_core m1 m2 hf)
        exact hQ.ext xc fun v s hs => hs.ext xc
      · have := go2.pre
        rw [List.length_append, List.length_cons] at this
        omega
      · intro H5 an k5 hM5 hT5 hA5 nap fr5
        have hf5 : H5 f = some (.lst (fnd.map V.int)) := k5 _ _ (s34 _ _ hf) fm fp (fun _ z => by cases z)
        have afn : an ≠ f := (fr5.ne (s34 _ _ hf) (fun _ z => by cases z)).symm
        have pre := go2.pre
        rw [List.length_append, List.length_cons] at pre
        refine ⟨_, rfl, .inl ⟨rfl, _, SqL.of hf5⟩, _, rfl, an, _, rfl, .inl (SqL.of hA5), f, _, _, rfl, rfl, hf5, by rw [List.length_map]; omega, ?_⟩
        refine ⟨_, rfl, .inl ⟨rfl, _, SqL.of upd_same⟩, _, rfl, f, an, _, _, rfl, rfl, upd_same, by rw [upd_ne afn]; exact hA5, by rw [List.length_append, List.length_map, List.length_map]; show fnd.length + 1 + _ ≤ _; omega, ?_⟩
        rw [upd_upd]
        refine ⟨l.length - pl2, by omega, _, _, _, _, _, pl2, _, _, rfl, rfl, le, go2, gd2, by omega, hM5.upd fm, tabs_upd hT5 hf5, ?_, extN_upd (fun b o z nt => k5 b o (s34 b o (hx b o z nt)) (ne_of_none z nm) (ne_of_none z np) nt) nf⟩
        rw [upd_same, List.map_append, List.map_cons, List.length_map, List.append_assoc]
        rfl
    · rw [decide_eq_false (show ¬ ((pl : Nat) : Int) < ((l.length : Nat) : Int) by omega)]
      refine iteF ⟨_, rfl, k H' f ?_⟩
      rw [go.done (by omega)]
      exact hf
end
end TW

/-! What the top has written, and all defs joined. -/
namespace TW
open PySem PySem.Spec PyProof.Rows L2 LamX
open PySem.W (Codec OpenSpec)
open Ut03 (Sent Ask House)
/-- a def, by its name -/
structure DefK (K : PySem.W.Frag) (x : Str) (st : Stmt) : Prop where
  ex : ∃ f fd, PySem.W.nsIn K mainGlobals x = some (some (.ref f)) ∧ Fun K x x st f fd
theorem def_at {K : PySem.W.Frag} {x : Str} {st : Stmt} {f : Addr} {oc : Value} {od an : Option Addr} {osl : Array (Option Value)} {kV doc pm cdv ct : Value} (a : PySem.W.nsIn K mainGlobals x = some (some (.ref f)))
    (l : K.lookup f = some ⟨oc, od, .func (PySem.W.fnOf x x (defArgs st) (defBody st) (defScope st) .none kV doc pm an cdv ct), osl⟩) (c : PySem.W.codeIn K cdv x = true) (k : PySem.W.keepIn K (.ref f) = true) : DefK K x st := ⟨f, _, a, fun_mk (st := st) l c k⟩
/-- a method, by its name -/
structure MethK (K : PySem.W.Frag) (C : Addr) (m qual : Str) (st : Stmt) : Prop where
  ex : ∃ f fd, Meth K C m f ∧ Fun K m qual st f fd
theorem meth_at {K : PySem.W.Frag} {C : Addr} {m qual : Str} {st : Stmt} {f : Addr} {oc : Value} {od an : Option Addr} {osl : Array (Option Value)} {kV doc pm cdv ct : Value} (a : PySem.W.findIn K (.ref C) m = some (some (.ref f))) (i : PySem.W.isFn K (.ref f) = true)
    (l : K.lookup f = some ⟨oc, od, .func (PySem.W.fnOf m qual (defArgs st) (defBody st) (defScope st) .none kV doc pm an cdv ct), osl⟩) (c : PySem.W.codeIn K cdv qual = true) (k : PySem.W.keepIn K (.ref f) = true) : MethK K C m qual st := ⟨f, _, ⟨a, i, k⟩, fun_mk (st := st) l c k⟩
/-- a whole number, by its name -/
structure ConstK (K : PySem.W.Frag) (x : Str) (i : Int) : Prop where
  ex : ∃ t, PySem.W.nsIn K mainGlobals x = some (some (.int i t))
/-- whole numbers in a tuple, by its name -/
structure NumsK (K : PySem.W.Frag) (x : Str) (l : List Nat) : Prop where
  ex : ∃ (d : Addr) (o : Obj) (its : Array Value) (n : Nat), PySem.W.nsIn K mainGlobals x = some (some (.ref d)) ∧ K.lookup d = some o ∧ o.cls = .type "tuple" ∧ o.data = .seq its n ∧ its.size ≤ sizeLine ∧ Vals (l.map nV) its.toList
theorem nums_at {K : PySem.W.Frag} {x : Str} {i0 i1 i2 i3 i4 i5 i6 i7 i8 i9 i10 : Nat} {t0 t1 t2 t3 t4 t5 t6 t7 t8 t9 t10 : Nat} {d : Addr} {od : Option Addr} {n : Nat} {osl : Array (Option Value)} (a : PySem.W.nsIn K mainGlobals x = some (some (.ref d)))
    (l : K.lookup d = some ⟨.type "tuple", od, .seq #[.int (i0 : Int) t0, .int (i1 : Int) t1, .int (i2 : Int) t2, .int (i3 : Int) t3, .int (i4 : Int) t4, .int (i5 : Int) t5, .int (i6 : Int) t6, .int (i7 : Int) t7, .int (i8 : Int) t8, .int (i9 : Int) t9, .int (i10 : Int) t10] n, osl⟩) : NumsK K x [i0, i1, i2, i3, i4, i5, i6, i7, i8, i9, i10] :=
  ⟨d, _, _, n, a, l, rfl, rfl, (by show 11 ≤ sizeLine; decide), .cons ⟨_, rfl⟩ (.cons ⟨_, rfl⟩ (.cons ⟨_, rfl⟩ (.cons ⟨_, rfl⟩ (.cons ⟨_, rfl⟩ (.cons ⟨_, rfl⟩ (.cons ⟨_, rfl⟩ (.cons ⟨_, rfl⟩ (.cons ⟨_, rfl⟩ (.cons ⟨_, rfl⟩ (.cons ⟨_, rfl⟩ .nil))))))))))⟩
/-- the deeds in their tuple -/
structure DeedsK (K : PySem.W.Frag) : Prop where
  ex : ∃ (d : Addr) (od : Option Addr) (n : Nat) (osl : Array (Option Value)) (f0 f1 f2 f3 f4 f5 f6 f7 f8 f9 f10 : Addr), PySem.W.nsIn K mainGlobals "DEEDS" = some (some (.ref d)) ∧
    K.lookup d = some ⟨.type "tuple", od, .seq #[.ref f0, .ref f1, .ref f2, .ref f3, .ref f4, .ref f5, .ref f6, .ref f7, .ref f8, .ref f9, .ref f10] n, osl⟩ ∧
    PySem.W.nsIn K mainGlobals "put" = some (some (.ref f0)) ∧ PySem.W.nsIn K mainGlobals "take" = some (some (.ref f1)) ∧ PySem.W.nsIn K mainGlobals "find" = some (some (.ref f2)) ∧ PySem.W.nsIn K mainGlobals "best" = some (some (.ref f3)) ∧ PySem.W.nsIn K mainGlobals "way_told" = some (some (.ref f4)) ∧ PySem.W.nsIn K mainGlobals "with_word" = some (some (.ref f5)) ∧ PySem.W.nsIn K mainGlobals "fill" = some (some (.ref f6)) ∧ PySem.W.nsIn K mainGlobals "entry_told" = some (some (.ref f7)) ∧ PySem.W.nsIn K mainGlobals "count" = some (some (.ref f8)) ∧ PySem.W.nsIn K mainGlobals "undo" = some (some (.ref f9)) ∧ PySem.W.nsIn K mainGlobals "near" = some (some (.ref f10))
/-- the class -/
structure ClsK (K : PySem.W.Frag) (C : Addr) : Prop where
  aC : PySem.W.nsIn K mainGlobals "Memory" = some (some (.ref C))
  pg : PySem.W.plainGet K C Str.empty = true
  hd : PySem.W.hasDictIn K C = true
  po : PySem.W.plainOver K C = true
  sa : PySem.W.findIn K (.ref C) "__setattr__" = some (some (.builtin "object.__setattr__"))
  makes : PySem.W.makesIn K C = true
  kc : PySem.W.keepIn K (.ref C) = true
  nE : PySem.W.findIn K (.ref C) "entries" = some none
  nF : PySem.W.findIn K (.ref C) "following" = some none
  nP : PySem.W.findIn K (.ref C) "past" = some none
/-- what the top has written, all that is needed -/
structure TopK (K : PySem.W.Frag) : Prop where
  most_words : ConstK K "MOST_WORDS" 20
  most_word : ConstK K "MOST_WORD" 9999
  kept : ConstK K "KEPT" 0
  exchanged : ConstK K "EXCHANGED" 1
  taken_out : ConstK K "TAKEN_OUT" 2
  put_in : ConstK K "PUT_IN" 3
  most_around : ConstK K "MOST_AROUND" 9999
  most_client : ConstK K "MOST_CLIENT" 99
  same : ConstK K "SAME" 100
  most_unlike : ConstK K "MOST_UNLIKE" 99
  other_client : ConstK K "OTHER_CLIENT" 3
  most_entries : ConstK K "MOST_ENTRIES" 30
  most_least : ConstK K "MOST_LEAST" 102
  most_asks : ConstK K "MOST_ASKS" 10
  wrong : ConstK K "WRONG" (-1)
  no_entry : ConstK K "NO_ENTRY" (-2)
  too_many : ConstK K "TOO_MANY" (-5)
  empty : ConstK K "EMPTY" (-6)
  nothing : ConstK K "NOTHING" (-7)
  len : PySem.W.nsIn K mainGlobals "len" = some none
  all : PySem.W.nsIn K mainGlobals "all" = some none
  range : PySem.W.nsIn K mainGlobals "range" = some none
  int : PySem.W.nsIn K mainGlobals "int" = some none
  min : PySem.W.nsIn K mainGlobals "min" = some none
  max : PySem.W.nsIn K mainGlobals "max" = some none
  list : PySem.W.nsIn K mainGlobals "list" = some none
  sorted : PySem.W.nsIn K mainGlobals "sorted" = some none
  d_are_words : DefK K "are_words" sAre
  d_next_row : DefK K "next_row" sNext
  d_distances : DefK K "distances" sDists
  d_distance : DefK K "distance" sDist
  d_last_step : DefK K "last_step" sLast
  d_way : DefK K "way" sWay
  d_nearness : DefK K "nearness" sNear
  d_told : DefK K "told" sTold
  d_is_ask : DefK K "is_ask" sIsAsk
  d_likeness : DefK K "likeness" sLike
  d_score : DefK K "score" sScore
  d_each_once : DefK K "each_once" sOnce
  d_found_ones : DefK K "found_ones" sFound
  d_asks_in : DefK K "asks_in" sAsks
  d_entries_with : DefK K "entries_with" sWithN
  d_first_found : DefK K "first_found" sFirst
  d_lists_at : DefK K "lists_at" sLists
  d_answered : DefK K "answered" sAnsd
  e_put : DefK K "put" sPut
  e_take : DefK K "take" sTake
  e_find : DefK K "find" sFind
  e_best : DefK K "best" sBest
  e_way_told : DefK K "way_told" sWayT
  e_with_word : DefK K "with_word" sWith
  e_fill : DefK K "fill" sFill
  e_entry_told : DefK K "entry_told" sEntry
  e_count : DefK K "count" sCount
  e_undo : DefK K "undo" sUndo
  e_near : DefK K "near" sNearD
  d_answers : DefK K "answers" sAns
  deeds : DeedsK K
  numbers : NumsK K "NUMBERS" [3, 1, 4, 3, 1, 1, 2, 1, 0, 0, 0]
  lists : NumsK K "LISTS" [2, 0, 1, 1, 1, 0, 1, 0, 0, 0, 2]
/-- by_score, with its code object -/
structure ByK (K : PySem.W.Frag) (c : Addr) : Prop where
  ex : ∃ (f : Addr) (oc : Value) (od an : Option Addr) (osl : Array (Option Value)) (kV doc pm ct : Value), PySem.W.nsIn K mainGlobals "by_score" = some (some (.ref f)) ∧
    K.lookup f = some ⟨oc, od, .func (PySem.W.fnOf "by_score" "by_score" (defArgs sBy) (defBody sBy) (defScope sBy) .none kV doc pm an (.ref c) ct), osl⟩ ∧ PySem.W.codeIn K (.ref c) "by_score" = true ∧ PySem.W.keepIn K (.ref f) = true
theorem by_at {K : PySem.W.Frag} {f c : Addr} {oc : Value} {od an : Option Addr} {osl : Array (Option Value)} {kV doc pm ct : Value} (a : PySem.W.nsIn K mainGlobals "by_score" = some (some (.ref f)))
    (l : K.lookup f = some ⟨oc, od, .func (PySem.W.fnOf "by_score" "by_score" (defArgs sBy) (defBody sBy) (defScope sBy) .none kV doc pm an (.ref c) ct), osl⟩) (c1 : PySem.W.codeIn K (.ref c) "by_score" = true) (k1 : PySem.W.keepIn K (.ref f) = true) : ByK K c := ⟨f, oc, od, an, osl, kV, doc, pm, ct, a, l, c1, k1⟩
theorem tab_at {K : PySem.W.Frag} {f c Pt : Addr} {oc oc2 : Value} {od an od2 : Option Addr} {osl osl2 : Array (Option Value)} {vs : Array Value} {kV doc pm ct : Value} (a : PySem.W.nsIn K mainGlobals "by_score" = some (some (.ref f)))
    (l : K.lookup f = some ⟨oc, od, .func (PySem.W.fnOf "by_score" "by_score" (defArgs sBy) (defBody sBy) (defScope sBy) .none kV doc pm an (.ref c) ct), osl⟩) (l2 : K.lookup c = some ⟨oc2, od2, .fields vs, osl2⟩) (v : vs[11]? = some (.ref Pt)) : PySem.W.tabIn K "by_score" = some (c, Pt) := by
  unfold PySem.W.tabIn
  have e : (PySem.W.fnOf "by_score" "by_score" (defArgs sBy) (defBody sBy) (defScope sBy) .none kV doc pm an (.ref c) ct).code = .ref c := rfl
  simp only [a, l, e, l2, v]
theorem const_at {K : PySem.W.Frag} {x : Str} {i : Int} {t : Tok} (a : PySem.W.nsIn K mainGlobals x = some (some (.int i t))) : ConstK K x i := ⟨t, a⟩
theorem deeds_at {K : PySem.W.Frag} {d : Addr} {od : Option Addr} {n : Nat} {osl : Array (Option Value)} {f0 f1 f2 f3 f4 f5 f6 f7 f8 f9 f10 : Addr} (a : PySem.W.nsIn K mainGlobals "DEEDS" = some (some (.ref d)))
    (l : K.lookup d = some ⟨.type "tuple", od, .seq #[.ref f0, .ref f1, .ref f2, .ref f3, .ref f4, .ref f5, .ref f6, .ref f7, .ref f8, .ref f9, .ref f10] n, osl⟩)
    (a0 : PySem.W.nsIn K mainGlobals "put" = some (some (.ref f0))) (a1 : PySem.W.nsIn K mainGlobals "take" = some (some (.ref f1))) (a2 : PySem.W.nsIn K mainGlobals "find" = some (some (.ref f2))) (a3 : PySem.W.nsIn K mainGlobals "best" = some (some (.ref f3))) (a4 : PySem.W.nsIn K mainGlobals "way_told" = some (some (.ref f4))) (a5 : PySem.W.nsIn K mainGlobals "with_word" = some (some (.ref f5))) (a6 : PySem.W.nsIn K mainGlobals "fill" = some (some (.ref f6))) (a7 : PySem.W.nsIn K mainGlobals "entry_told" = some (some (.ref f7))) (a8 : PySem.W.nsIn K mainGlobals "count" = some (some (.ref f8))) (a9 : PySem.W.nsIn K mainGlobals "undo" = some (some (.ref f9))) (a10 : PySem.W.nsIn K mainGlobals "near" = some (some (.ref f10))) : DeedsK K := ⟨d, od, n, osl, f0, f1, f2, f3, f4, f5, f6, f7, f8, f9, f10, a, l, a0, a1, a2, a3, a4, a5, a6, a7, a8, a9, a10⟩
section
variable {P : Program} {w : World} {K : PySem.W.Frag} {mg : Str → Option Value} {base h : Heap} {C Pt zf : Addr}
theorem const_is {x : Str} {i : Int} (c : ConstK K x i) (X : K.In h) (G0 : h.Ns mainGlobals mg) : Is mg x (.int i) :=
  let ⟨t, a⟩ := c.ex
  ⟨_, PySem.W.mg_of X G0 a, t, rfl⟩
theorem glob_of (Y : TopK K) (X : K.In h) (G0 : h.Ns mainGlobals mg) : Glob mg where
  most_words := const_is Y.most_words X G0
  most_word := const_is Y.most_word X G0
  kept := const_is Y.kept X G0
  exchanged := const_is Y.exchanged X G0
  taken_out := const_is Y.taken_out X G0
  put_in := const_is Y.put_in X G0
  most_around := const_is Y.most_around X G0
  most_client := const_is Y.most_client X G0
  same := const_is Y.same X G0
  most_unlike := const_is Y.most_unlike X G0
  other_client := const_is Y.other_client X G0
  most_entries := const_is Y.most_entries X G0
  most_least := const_is Y.most_least X G0
  most_asks := const_is Y.most_asks X G0
  wrong := const_is Y.wrong X G0
  no_entry := const_is Y.no_entry X G0
  too_many := const_is Y.too_many X G0
  empty := const_is Y.empty X G0
  nothing := const_is Y.nothing X G0
  len := PySem.W.mg_none_of X G0 Y.len
  all := PySem.W.mg_none_of X G0 Y.all
  range := PySem.W.mg_none_of X G0 Y.range
  int := PySem.W.mg_none_of X G0 Y.int
  min := PySem.W.mg_none_of X G0 Y.min
  max := PySem.W.mg_none_of X G0 Y.max
  list := PySem.W.mg_none_of X G0 Y.list
  sorted := PySem.W.mg_none_of X G0 Y.sorted
theorem nums_of {x : Str} {l : List Nat} (N : NumsK K x l) (X : K.In h) (G0 : h.Ns mainGlobals mg) : NumsAt K mg x l := by
  obtain ⟨d, o, its, n, a, lk, h1, h2, h3, h4⟩ := N.ex
  exact ⟨d, ⟨_, PySem.W.mg_of X G0 a, rfl⟩, fun H => .inr ⟨o, its, n, lk, h1, h2, h3, h4⟩⟩
theorem def_of {x : Str} {st : Stmt} (Dk : DefK K x st) (X : K.In h) (G0 : h.Ns mainGlobals mg) : ∃ f fd, Fun K x x st f fd ∧ mg x = some (.ref f) ∧ PySem.W.keepIn K (.ref f) = true :=
  let ⟨f, fd, a, F⟩ := Dk.ex
  ⟨f, fd, F, PySem.W.mg_of X G0 a, F.kp⟩
theorem held_of {x : Str} {st : Stmt} {n : Nat} (Dk : DefK K x st) {f0 : Addr} (a0 : PySem.W.nsIn K mainGlobals x = some (some (.ref f0)))
    (ok : ∀ {f : Addr} {fd : FuncData}, Fun K x x st f fd → FnOk P w K mg base CX0 14 f fd ["memory", "numbers", "lists"] (spDeed zf C Pt n) ∧ Binds K fd ["memory", "numbers", "lists"] []) : Held P w K mg base 14 f0 (spDeed zf C Pt n) := by
  obtain ⟨f, fd, a, F⟩ := Dk.ex
  have e := a.symm.trans a0
  cases e
  obtain ⟨o1, o2⟩ := ok F
  exact ⟨fd, _, o1, F.kp, o2⟩
theorem meth_of {m qual : Str} {st : Stmt} (Mk : MethK K C m qual st) : ∃ f fd, Meth K C m f ∧ Fun K m qual st f fd := Mk.ex
theorem all_mk {fa c : Addr} (X : K.In h) (G0 : h.Ns mainGlobals mg) (hfa : mg "answers" = some (.ref fa)) (Y : TopK K) (B : ByK K c) (Z : ClsK K C) (m0 : MethK K C "__init__" "Memory.__init__" sInit)
    (m1 : MethK K C "numbered" "Memory.numbered" sNum)
    (m2 : MethK K C "become" "Memory.become" sBecome)
    (m3 : MethK K C "undo" "Memory.undo" sUndoM)
    : ∃ fd : FuncData, (∀ (s : Shared) (us : List Value), us.length = (["calls"] : List Str).length → BindsTo s fd ⟨us, []⟩ ((["calls"] : List Str).zip us)) ∧ ∀ base : Heap, TabB base mg c Pt → FnOk P w K mg base CX0 16 fa fd ["calls"] (spAns K Pt) := by
  have G := glob_of Y X G0
  have T : ClsM K C := ⟨⟨Z.pg, Z.hd, Z.po, Z.sa⟩, Z.nE, Z.nF, Z.nP⟩
  have gC : mg "Memory" = some (.ref C) := PySem.W.mg_of X G0 Z.aC
  obtain ⟨fA, fdA, hA, FA⟩ := Y.d_answers.ex
  have e := hfa.symm.trans (PySem.W.mg_of X G0 hA)
  cases e
  have FA2 := FA
  obtain ⟨oc, od, kV, doc, pm, an, cdv, ct, osl, rfl, _⟩ := FA2.ex
  refine ⟨PySem.W.fnOf "answers" "answers" (defArgs sAns) (defBody sAns) (defScope sAns) .none kV doc pm an cdv ct, fun s us hu => match us, hu with | [_], _ => .of_eq rfl, fun base TB => ?_⟩
  have d_are_words : Dep P w K mg base 1 "are_words" ["numbers"] spAre := by
    obtain ⟨f, fd, F, hm, hk⟩ := def_of Y.d_are_words X G0
    exact ⟨f, fd, ok_are F G, hm, hk, F.binds (ps := ["numbers"]) fun _ _ _ _ _ _ us hl => match us, hl with | [_], _ => rfl⟩
  have d_next_row : Dep P w K mg base 1 "next_row" ["row", "word", "other"] spNext := by
    obtain ⟨f, fd, F, hm, hk⟩ := def_of Y.d_next_row X G0
    exact ⟨f, fd, ok_next F G, hm, hk, F.binds (ps := ["row", "word", "other"]) fun _ _ _ _ _ _ us hl => match us, hl with | [_, _, _], _ => rfl⟩
  have d_distances : Dep P w K mg base 2 "distances" ["one", "other"] spDists := by
    obtain ⟨f, fd, F, hm, hk⟩ := def_of Y.d_distances X G0
    exact ⟨f, fd, ok_dists F G d_next_row, hm, hk, F.binds (ps := ["one", "other"]) fun _ _ _ _ _ _ us hl => match us, hl with | [_, _], _ => rfl⟩
  have d_distance : Dep P w K mg base 3 "distance" ["one", "other"] spDist := by
    obtain ⟨f, fd, F, hm, hk⟩ := def_of Y.d_distance X G0
    exact ⟨f, fd, ok_dist F G d_distances, hm, hk, F.binds (ps := ["one", "other"]) fun _ _ _ _ _ _ us hl => match us, hl with | [_, _], _ => rfl⟩
  have d_last_step : Dep P w K mg base 1 "last_step" ["rows", "one", "other", "left", "right"] spLast := by
    obtain ⟨f, fd, F, hm, hk⟩ := def_of Y.d_last_step X G0
    exact ⟨f, fd, ok_last F G, hm, hk, F.binds (ps := ["rows", "one", "other", "left", "right"]) fun _ _ _ _ _ _ us hl => match us, hl with | [_, _, _, _, _], _ => rfl⟩
  have d_way : Dep P w K mg base 3 "way" ["one", "other"] spWay := by
    obtain ⟨f, fd, F, hm, hk⟩ := def_of Y.d_way X G0
    exact ⟨f, fd, ok_way F G d_distances d_last_step, hm, hk, F.binds (ps := ["one", "other"]) fun _ _ _ _ _ _ us hl => match us, hl with | [_, _], _ => rfl⟩
  have d_nearness : Dep P w K mg base 4 "nearness" ["one", "other"] spNear := by
    obtain ⟨f, fd, F, hm, hk⟩ := def_of Y.d_nearness X G0
    exact ⟨f, fd, ok_near F G d_distance, hm, hk, F.binds (ps := ["one", "other"]) fun _ _ _ _ _ _ us hl => match us, hl with | [_, _], _ => rfl⟩
  have d_told : Dep P w K mg base 1 "told" ["sentence"] spTold := by
    obtain ⟨f, fd, F, hm, hk⟩ := def_of Y.d_told X G0
    exact ⟨f, fd, ok_told F G, hm, hk, F.binds (ps := ["sentence"]) fun _ _ _ _ _ _ us hl => match us, hl with | [_], _ => rfl⟩
  have d_is_ask : Dep P w K mg base 2 "is_ask" ["ask"] spIsAsk := by
    obtain ⟨f, fd, F, hm, hk⟩ := def_of Y.d_is_ask X G0
    exact ⟨f, fd, ok_isAsk F G d_are_words, hm, hk, F.binds (ps := ["ask"]) fun _ _ _ _ _ _ us hl => match us, hl with | [_], _ => rfl⟩
  have d_likeness : Dep P w K mg base 5 "likeness" ["own", "ask"] spLike := by
    obtain ⟨f, fd, F, hm, hk⟩ := def_of Y.d_likeness X G0
    exact ⟨f, fd, ok_like F G d_nearness, hm, hk, F.binds (ps := ["own", "ask"]) fun _ _ _ _ _ _ us hl => match us, hl with | [_, _], _ => rfl⟩
  have d_score : Dep P w K mg base 6 "score" ["entry", "ask"] spScore := by
    obtain ⟨f, fd, F, hm, hk⟩ := def_of Y.d_score X G0
    exact ⟨f, fd, ok_score F G d_likeness, hm, hk, F.binds (ps := ["entry", "ask"]) fun _ _ _ _ _ _ us hl => match us, hl with | [_, _], _ => rfl⟩
  have d_by_score : Dep P w K mg base 8 "by_score" ["entries", "ask"] (spBy Pt) := by
    obtain ⟨f, oc, od, an, osl, kV, doc, pm, ct, a, l, c1, k1⟩ := B.ex
    have F := fun_mk (st := sBy) l c1 k1
    exact ⟨f, _, ok_by l c1 TB G d_score, PySem.W.mg_of X G0 a, k1, F.binds (ps := ["entries", "ask"]) fun _ _ _ _ _ _ us hl => match us, hl with | [_, _], _ => rfl⟩
  have d_each_once : Dep P w K mg base 2 "each_once" ["rows"] spOnce := by
    obtain ⟨f, fd, F, hm, hk⟩ := def_of Y.d_each_once X G0
    exact ⟨f, fd, ok_once F, hm, hk, F.binds (ps := ["rows"]) fun _ _ _ _ _ _ us hl => match us, hl with | [_], _ => rfl⟩
  have d_found_ones : Dep P w K mg base 9 "found_ones" ["entries", "ask", "least"] (spFound Pt) := by
    obtain ⟨f, fd, F, hm, hk⟩ := def_of Y.d_found_ones X G0
    exact ⟨f, fd, ok_found F d_by_score d_each_once, hm, hk, F.binds (ps := ["entries", "ask", "least"]) fun _ _ _ _ _ _ us hl => match us, hl with | [_, _, _], _ => rfl⟩
  have d_asks_in : Dep P w K mg base 1 "asks_in" ["many", "numbers"] spAsks := by
    obtain ⟨f, fd, F, hm, hk⟩ := def_of Y.d_asks_in X G0
    exact ⟨f, fd, ok_asks F G, hm, hk, F.binds (ps := ["many", "numbers"]) fun _ _ _ _ _ _ us hl => match us, hl with | [_, _], _ => rfl⟩
  have d_entries_with : ∀ zf, Dep P w K mg base 1 "entries_with" ["memory", "number"] (spWithN zf C) := fun zf => by
    obtain ⟨f, fd, F, hm, hk⟩ := def_of Y.d_entries_with X G0
    exact ⟨f, fd, ok_withN F T, hm, hk, F.binds (ps := ["memory", "number"]) fun _ _ _ _ _ _ us hl => match us, hl with | [_, _], _ => rfl⟩
  have d_first_found : ∀ zf, Dep P w K mg base 10 "first_found" ["memory", "ask", "least"] (spFirst zf C Pt) := fun zf => by
    obtain ⟨f, fd, F, hm, hk⟩ := def_of Y.d_first_found X G0
    exact ⟨f, fd, ok_first F T G d_found_ones, hm, hk, F.binds (ps := ["memory", "ask", "least"]) fun _ _ _ _ _ _ us hl => match us, hl with | [_, _, _], _ => rfl⟩
  have d_lists_at : Dep P w K mg base 1 "lists_at" ["calls", "place", "many"] (spLists K) := by
    obtain ⟨f, fd, F, hm, hk⟩ := def_of Y.d_lists_at X G0
    exact ⟨f, fd, ok_lists F G, hm, hk, F.binds (ps := ["calls", "place", "many"]) fun _ _ _ _ _ _ us hl => match us, hl with | [_, _, _], _ => rfl⟩
  have m_numbered : ∀ zf, DepM P w K mg base 1 C "numbered" ["self"] (spNum zf C) := fun zf => by
    obtain ⟨f, fd, hm, F⟩ := meth_of m1
    exact ⟨f, fd, ok_num F T, hm, F.binds (ps := ["self"]) fun _ _ _ _ _ _ us hl => match us, hl with | [_], _ => rfl⟩
  have m_become : ∀ zf, DepM P w K mg base 1 C "become" ["self", "entries"] (spBecome zf C) := fun zf => by
    obtain ⟨f, fd, hm, F⟩ := meth_of m2
    exact ⟨f, fd, ok_become F T, hm, F.binds (ps := ["self", "entries"]) fun _ _ _ _ _ _ us hl => match us, hl with | [_, _], _ => rfl⟩
  have m_undo : ∀ zf, DepM P w K mg base 1 C "undo" ["self"] (spUndoM zf C) := fun zf => by
    obtain ⟨f, fd, hm, F⟩ := meth_of m3
    exact ⟨f, fd, ok_undoM F T, hm, F.binds (ps := ["self"]) fun _ _ _ _ _ _ us hl => match us, hl with | [_], _ => rfl⟩
  have DD : Deeds P w K mg base C Pt := by
    obtain ⟨d, od, n, osl, f0, f1, f2, f3, f4, f5, f6, f7, f8, f9, f10, ad, ld, a0, a1, a2, a3, a4, a5, a6, a7, a8, a9, a10⟩ := Y.deeds.ex
    refine ⟨d, [f0, f1, f2, f3, f4, f5, f6, f7, f8, f9, f10], ⟨_, PySem.W.mg_of X G0 ad, rfl⟩, fun H => .inr ⟨_, _, n, ld, rfl, rfl, (by show 11 ≤ sizeLine; decide), .cons rfl (.cons rfl (.cons rfl (.cons rfl (.cons rfl (.cons rfl (.cons rfl (.cons rfl (.cons rfl (.cons rfl (.cons rfl .nil))))))))))⟩, rfl, fun k f hk zf => ?_⟩
    have h0 : Held P w K mg base 14 f0 (spDeed zf C Pt 0) := held_of Y.e_put a0 fun F => ⟨ok_put F T G d_is_ask d_are_words (m_become zf) (m_numbered zf), F.binds (ps := ["memory", "numbers", "lists"]) fun _ _ _ _ _ _ us hl => match us, hl with | [_, _, _], _ => rfl⟩
    have h1 : Held P w K mg base 14 f1 (spDeed zf C Pt 1) := held_of Y.e_take a1 fun F => ⟨ok_take F T G (d_entries_with zf) (m_become zf), F.binds (ps := ["memory", "numbers", "lists"]) fun _ _ _ _ _ _ us hl => match us, hl with | [_, _, _], _ => rfl⟩
    have h2 : Held P w K mg base 14 f2 (spDeed zf C Pt 2) := held_of Y.e_find a2 fun F => ⟨ok_find F T G d_is_ask d_found_ones, F.binds (ps := ["memory", "numbers", "lists"]) fun _ _ _ _ _ _ us hl => match us, hl with | [_, _, _], _ => rfl⟩
    have h3 : Held P w K mg base 14 f3 (spDeed zf C Pt 3) := held_of Y.e_best a3 fun F => ⟨ok_best F T G d_is_ask d_found_ones d_told, F.binds (ps := ["memory", "numbers", "lists"]) fun _ _ _ _ _ _ us hl => match us, hl with | [_, _, _], _ => rfl⟩
    have h4 : Held P w K mg base 14 f4 (spDeed zf C Pt 4) := held_of Y.e_way_told a4 fun F => ⟨ok_wayT F G (d_entries_with zf) d_are_words d_way d_distance, F.binds (ps := ["memory", "numbers", "lists"]) fun _ _ _ _ _ _ us hl => match us, hl with | [_, _, _], _ => rfl⟩
    have h5 : Held P w K mg base 14 f5 (spDeed zf C Pt 5) := held_of Y.e_with_word a5 fun F => ⟨ok_with F T G, F.binds (ps := ["memory", "numbers", "lists"]) fun _ _ _ _ _ _ us hl => match us, hl with | [_, _, _], _ => rfl⟩
    have h6 : Held P w K mg base 14 f6 (spDeed zf C Pt 6) := held_of Y.e_fill a6 fun F => ⟨ok_fill F T G d_is_ask d_asks_in (d_first_found zf), F.binds (ps := ["memory", "numbers", "lists"]) fun _ _ _ _ _ _ us hl => match us, hl with | [_, _, _], _ => rfl⟩
    have h7 : Held P w K mg base 14 f7 (spDeed zf C Pt 7) := held_of Y.e_entry_told a7 fun F => ⟨ok_entry F G (d_entries_with zf) d_told, F.binds (ps := ["memory", "numbers", "lists"]) fun _ _ _ _ _ _ us hl => match us, hl with | [_, _, _], _ => rfl⟩
    have h8 : Held P w K mg base 14 f8 (spDeed zf C Pt 8) := held_of Y.e_count a8 fun F => ⟨ok_count F T G, F.binds (ps := ["memory", "numbers", "lists"]) fun _ _ _ _ _ _ us hl => match us, hl with | [_, _, _], _ => rfl⟩
    have h9 : Held P w K mg base 14 f9 (spDeed zf C Pt 9) := held_of Y.e_undo a9 fun F => ⟨ok_undo F T G (m_undo zf), F.binds (ps := ["memory", "numbers", "lists"]) fun _ _ _ _ _ _ us hl => match us, hl with | [_, _, _], _ => rfl⟩
    have h10 : Held P w K mg base 14 f10 (spDeed zf C Pt 10) := held_of Y.e_near a10 fun F => ⟨ok_nearD F G d_are_words d_distance d_nearness, F.binds (ps := ["memory", "numbers", "lists"]) fun _ _ _ _ _ _ us hl => match us, hl with | [_, _, _], _ => rfl⟩
    match k, hk with
    | 0, hk => cases Option.some.inj hk; exact h0
    | 1, hk => cases Option.some.inj hk; exact h1
    | 2, hk => cases Option.some.inj hk; exact h2
    | 3, hk => cases Option.some.inj hk; exact h3
    | 4, hk => cases Option.some.inj hk; exact h4
    | 5, hk => cases Option.some.inj hk; exact h5
    | 6, hk => cases Option.some.inj hk; exact h6
    | 7, hk => cases Option.some.inj hk; exact h7
    | 8, hk => cases Option.some.inj hk; exact h8
    | 9, hk => cases Option.some.inj hk; exact h9
    | 10, hk => cases Option.some.inj hk; exact h10
    | k + 11, hk => cases hk
  have d_answered : Dep P w K mg base 15 "answered" ["memory", "word", "numbers", "lists"] (spAnsd C Pt) := by
    obtain ⟨f, fd, F, hm, hk⟩ := def_of Y.d_answered X G0
    exact ⟨f, fd, ok_ansd F DD, hm, hk, F.binds (ps := ["memory", "word", "numbers", "lists"]) fun _ _ _ _ _ _ us hl => match us, hl with | [_, _, _, _], _ => rfl⟩
  obtain ⟨fI, fdI, hI, FI⟩ := m0.ex
  have bI : Binds K fdI ["self"] [] := FI.binds (ps := ["self"]) fun _ _ _ _ _ _ us hl => match us, hl with | [_], _ => rfl
  exact ok_ans FA G ⟨Z.makes, hI.at_, hI.fn, Z.kc⟩ (ok_init FI T) bI gC (nums_of Y.numbers X G0) (nums_of Y.lists X G0) d_lists_at d_answered
end
/-- what is asked of a line -/
theorem asked_in {K : PySem.W.Frag} {Pt : Addr} (H : Hp) (a : Addr) (ns : List Int) (av : Codec.denoteAll PySem.Challenge.rw_translations_s01_answers.args) (h1 : Codec.encAll PySem.Challenge.rw_translations_s01_answers.args av = [.list (ns.map .int)]) (h2 : Codec.withinAll PySem.Challenge.rw_translations_s01_answers.args av = true)
    (h3 : Codec.app PySem.Challenge.rw_translations_s01_answers.args PySem.Challenge.rw_translations_s01_answers.asked av = true) (hl : ns.length ≤ 9120) (hT : H Pt = some (.tbl #[])) (hS : SqL K H a (ns.map V.int)) :
    spAns K Pt [.ref a] H (fun v H' => Dw K H' v (PySem.Challenge.rw_translations_s01_answers.ret.enc (Codec.app PySem.Challenge.rw_translations_s01_answers.args PySem.Challenge.rw_translations_s01_answers.f av))) fun _ _ _ => False := by
  have e1 : Codec.encAll PySem.Challenge.rw_translations_s01_answers.args av = [.list (av.1.map .int)] := rfl
  have e2 : av.1 = ns := by
    rw [e1] at h1
    injection h1 with h1
    injection h1 with h1
    exact (List.map_inj_right (fun x y z => by injection z)).mp h1
  have q : ((Codec.inLen 0 9120 av.1 && av.1.all (Codec.inInt 0 4294967295)) && true) = true := h2
  rw [Bool.and_eq_true, Bool.and_eq_true] at q
  have small : ∀ z ∈ ns, 0 ≤ z ∧ z ≤ 4294967295 := fun z hz => by
    have := List.all_eq_true.mp q.1.2 z (e2 ▸ hz)
    unfold Codec.inInt at this
    rw [Bool.and_eq_true, decide_eq_true_iff, decide_eq_true_iff] at this
    exact this
  have ec : TM.cI (ns.map Int.toNat) = ns := by
    unfold TM.cI
    rw [List.map_map]
    refine (List.map_congr_left fun z hz => ?_).trans (List.map_id ns)
    have := small z hz
    show ((z.toNat : Nat) : Int) = z
    omega
  have ask : PyUt03.answers_asked av.1 = true := h3
  rw [e2, ← ec] at ask
  refine ⟨a, ns.map Int.toNat, rfl, ?_, fun m hm => ?_, by rw [List.length_map]; omega, TabS.nil hT, ask, fun H' p hp => ?_⟩
  · have : (ns.map Int.toNat).map nV = ns.map V.int := by
      rw [← cI_nV, ec]
    rw [this]
    exact hS
  · obtain ⟨z, hz, rfl⟩ := List.mem_map.mp hm
    have := small z hz
    omega
  · rw [ec] at hp
    show Dw K H' (.ref p) (.list ((PyUt03.answers av.1).map .int))
    rw [e2]
    exact .lst (SqL.of hp) (dw_ints _)
/-- what the row asks for, from what the head has found -/
theorem all_of {p : Program} {loose : List Str} {mean : ExcName → Option Value} {mg mb : Str → Option Value} {K : PySem.W.Frag} {h : Heap} {w : World} {fa c C Pt : Addr} {d : DefRec} (X : K.In h) (G0 : h.Ns mainGlobals mg) (TT : PyProof.Rows.Top p loose mean mg mb h) (hfa : mg "answers" = some (.ref fa))
    (hr : (recsOf p).find? (fun e => e.name == ("by_score" : Str)) = some d) (ht : PySem.W.tabIn K "by_score" = some (c, Pt)) (nPt : K.lookup Pt = none) (Y : TopK K) (B : ByK K c) (Z : ClsK K C) (m0 : MethK K C "__init__" "Memory.__init__" sInit)
    (m1 : MethK K C "numbered" "Memory.numbered" sNum) (m2 : MethK K C "become" "Memory.become" sBecome) (m3 : MethK K C "undo" "Memory.undo" sUndoM) :
    ∃ (fd : FuncData) (c Pt : Addr) (sp : Sp), h.get? Pt = some { cls := .none, data := .fields #[] } ∧ K.lookup Pt = none ∧ PySem.W.CodeHd h c Pt ∧ (∀ (s : Shared) (u : Value), BindsTo s fd ⟨[u], []⟩ [("calls", u)]) ∧
        (∀ (H : Hp) (a : Addr) (ns : List Int) (av : Codec.denoteAll PySem.Challenge.rw_translations_s01_answers.args), Codec.encAll PySem.Challenge.rw_translations_s01_answers.args av = [.list (ns.map .int)] → Codec.withinAll PySem.Challenge.rw_translations_s01_answers.args av = true → Codec.app PySem.Challenge.rw_translations_s01_answers.args PySem.Challenge.rw_translations_s01_answers.asked av = true → ns.length ≤ 9120 → H Pt = some (.tbl #[]) → SqL K H a (ns.map V.int) →
          sp [.ref a] H (fun v H' => Dw K H' v (PySem.Challenge.rw_translations_s01_answers.ret.enc (Codec.app PySem.Challenge.rw_translations_s01_answers.args PySem.Challenge.rw_translations_s01_answers.f av))) fun _ _ _ => False) ∧
        ∀ base : Heap, K.In base → base.Ns mainGlobals mg → TabB base mg c Pt → FnOk PySem.Challenge.rw_translations_s01_answers.prog w K mg base CX0 16 fa fd ["calls"] sp := by
  obtain ⟨t1, t2⟩ := PySem.W.tab_of TT X hr ht
  obtain ⟨fd, hb, hF⟩ := all_mk (P := PySem.Challenge.rw_translations_s01_answers.prog) (w := w) (Pt := Pt) X G0 hfa Y B Z m0 m1 m2 m3
  exact ⟨fd, c, Pt, spAns K Pt, t2, nPt, t1, fun s u => hb s [u] rfl, fun H a ns av h1 h2 h3 h4 h5 h6 => asked_in H a ns av h1 h2 h3 h4 h5 h6, fun base _ _ TB => hF base TB⟩
end TW

open PySem PySem.W PyProof.Rows
set_option maxRecDepth 100000 in
set_option maxHeartbeats 8000000 in
theorem PySem.Challenge.cw_translations_s01_answers_holds : PySem.Challenge.rw_translations_s01_answers.Holds := by
  w_on; k_headS; (case hw => exact ⟨[.list [.int 8]], by decide +kernel, by decide +kernel⟩)
  k_fillS
  refine TW.walk_entry (r := PySem.Challenge.rw_translations_s01_answers) (k := 16) (CX := L2.CX0) (x := "calls") (lo := 0) (hi := 9120) (zl := 0) (zh := 4294967295) (by decide +kernel) rfl rfl (by decide) ⟨rfl, by decide, by decide⟩ (fun w h Y => PySem.W.kIn_of Y) ?F (fun _ _ _ _ z => z)
  case F =>
    intro w mg mb mean ls fa h YY KX G0 TT hmg
    refine' TW.all_of KX G0 TT hmg ?rec ?tab ?np ?Y ?B ?Z ?m0 ?m1 ?m2 ?m3
    (case rec => rfl)
    case B =>
      refine' TW.by_at ?a ?l ?c ?k
      (case a => k_is); (case l => k_is); (case c => k_is); (case k => k_is)
    case tab =>
      refine' TW.tab_at ?a ?l ?l2 ?v
      (case a => k_is); (case l => k_is); (case l2 => k_is); (case v => rfl)
    (case np => kernel_rfl)
    case Z =>
      refine' ⟨?aC, ?pg, ?hd, ?po, ?sa, ?mk, ?kc, ?nE, ?nF, ?nP⟩
      (case aC => k_is); (case pg => k_is); (case hd => k_is); (case po => k_is); (case sa => k_is); (case mk => k_is); (case kc => k_is); (case nE => k_is); (case nF => k_is); (case nP => k_is)
    case m0 =>
      refine' TW.meth_at ?a ?i ?l ?c ?k
      (case a => k_is); (case i => k_is); (case l => k_is); (case c => k_is); (case k => k_is)
    case m1 =>
      refine' TW.meth_at ?a ?i ?l ?c ?k
      (case a => k_is); (case i => k_is); (case l => k_is); (case c => k_is); (case k => k_is)
    case m2 =>
      refine' TW.meth_at ?a ?i ?l ?c ?k
      (case a => k_is); (case i => k_is); (case l => k_is); (case c => k_is); (case k => k_is)
    case m3 =>
      refine' TW.meth_at ?a ?i ?l ?c ?k
      (case a => k_is); (case i => k_is); (case l => k_is); (case c => k_is); (case k => k_is)
    case Y =>
      refine' ⟨TW.const_at ?c0, TW.const_at ?c1, TW.const_at ?c2, TW.const_at ?c3, TW.const_at ?c4, TW.const_at ?c5, TW.const_at ?c6, TW.const_at ?c7, TW.const_at ?c8, TW.const_at ?c9, TW.const_at ?c10, TW.const_at ?c11, TW.const_at ?c12, TW.const_at ?c13, TW.const_at ?c14, TW.const_at ?c15, TW.const_at ?c16, TW.const_at ?c17, TW.const_at ?c18, ?c19, ?c20, ?c21, ?c22, ?c23, ?c24, ?c25, ?c26, TW.def_at ?a27 ?l27 ?k27 ?m27, TW.def_at ?a28 ?l28 ?k28 ?m28, TW.def_at ?a29 ?l29 ?k29 ?m29, TW.def_at ?a30 ?l30 ?k30 ?m30, TW.def_at ?a31 ?l31 ?k31 ?m31, TW.def_at ?a32 ?l32 ?k32 ?m32, TW.def_at ?a33 ?l33 ?k33 ?m33, TW.def_at ?a34 ?l34 ?k34 ?m34, TW.def_at ?a35 ?l35 ?k35 ?m35, TW.def_at ?a36 ?l36 ?k36 ?m36, TW.def_at ?a37 ?l37 ?k37 ?m37, TW.def_at ?a38 ?l38 ?k38 ?m38, TW.def_at ?a39 ?l39 ?k39 ?m39, TW.def_at ?a40 ?l40 ?k40 ?m40, TW.def_at ?a41 ?l41 ?k41 ?m41, TW.def_at ?a42 ?l42 ?k42 ?m42, TW.def_at ?a43 ?l43 ?k43 ?m43, TW.def_at ?a44 ?l44 ?k44 ?m44, TW.def_at ?a45 ?l45 ?k45 ?m45, TW.def_at ?a46 ?l46 ?k46 ?m46, TW.def_at ?a47 ?l47 ?k47 ?m47, TW.def_at ?a48 ?l48 ?k48 ?m48, TW.def_at ?a49 ?l49 ?k49 ?m49, TW.def_at ?a50 ?l50 ?k50 ?m50, TW.def_at ?a51 ?l51 ?k51 ?m51, TW.def_at ?a52 ?l52 ?k52 ?m52, TW.def_at ?a53 ?l53 ?k53 ?m53, TW.def_at ?a54 ?l54 ?k54 ?m54, TW.def_at ?a55 ?l55 ?k55 ?m55, TW.def_at ?a56 ?l56 ?k56 ?m56, TW.deeds_at ?da ?dl ?d0 ?d1 ?d2 ?d3 ?d4 ?d5 ?d6 ?d7 ?d8 ?d9 ?d10, TW.nums_at ?na ?nal, TW.nums_at ?nb ?nbl⟩
      (case c0 => k_is)
      (case c1 => k_is)
      (case c2 => k_is)
      (case c3 => k_is)
      (case c4 => k_is)
      (case c5 => k_is)
      (case c6 => k_is)
      (case c7 => k_is)
      (case c8 => k_is)
      (case c9 => k_is)
      (case c10 => k_is)
      (case c11 => k_is)
      (case c12 => k_is)
      (case c13 => k_is)
      (case c14 => k_is)
      (case c15 => k_is)
      (case c16 => k_is)
      (case c17 => k_is)
      (case c18 => k_is)
      (case c19 => k_is)
      (case c20 => k_is)
      (case c21 => k_is)
      (case c22 => k_is)
      (case c23 => k_is)
      (case c24 => k_is)
      (case c25 => k_is)
      (case c26 => k_is)
      (case a27 => k_is); (case l27 => k_is); (case k27 => k_is); (case m27 => k_is)
      (case a28 => k_is); (case l28 => k_is); (case k28 => k_is); (case m28 => k_is)
      (case a29 => k_is); (case l29 => k_is); (case k29 => k_is); (case m29 => k_is)
      (case a30 => k_is); (case l30 => k_is); (case k30 => k_is); (case m30 => k_is)
      (case a31 => k_is); (case l31 => k_is); (case k31 => k_is); (case m31 => k_is)
      (case a32 => k_is); (case l32 => k_is); (case k32 => k_is); (case m32 => k_is)
      (case a33 => k_is); (case l33 => k_is); (case k33 => k_is); (case m33 => k_is)
      (case a34 => k_is); (case l34 => k_is); (case k34 => k_is); (case m34 => k_is)
      (case a35 => k_is); (case l35 => k_is); (case k35 => k_is); (case m35 => k_is)
      (case a36 => k_is); (case l36 => k_is); (case k36 => k_is); (case m36 => k_is)
      (case a37 => k_is); (case l37 => k_is); (case k37 => k_is); (case m37 => k_is)
      (case a38 => k_is); (case l38 => k_is); (case k38 => k_is); (case m38 => k_is)
      (case a39 => k_is); (case l39 => k_is); (case k39 => k_is); (case m39 => k_is)
      (case a40 => k_is); (case l40 => k_is); (case k40 => k_is); (case m40 => k_is)
      (case a41 => k_is); (case l41 => k_is); (case k41 => k_is); (case m41 => k_is)
      (case a42 => k_is); (case l42 => k_is); (case k42 => k_is); (case m42 => k_is)
      (case a43 => k_is); (case l43 => k_is); (case k43 => k_is); (case m43 => k_is)
      (case a44 => k_is); (case l44 => k_is); (case k44 => k_is); (case m44 => k_is)
      (case a45 => k_is); (case l45 => k_is); (case k45 => k_is); (case m45 => k_is)
      (case a46 => k_is); (case l46 => k_is); (case k46 => k_is); (case m46 => k_is)
      (case a47 => k_is); (case l47 => k_is); (case k47 => k_is); (case m47 => k_is)
      (case a48 => k_is); (case l48 => k_is); (case k48 => k_is); (case m48 => k_is)
      (case a49 => k_is); (case l49 => k_is); (case k49 => k_is); (case m49 => k_is)
      (case a50 => k_is); (case l50 => k_is); (case k50 => k_is); (case m50 => k_is)
      (case a51 => k_is); (case l51 => k_is); (case k51 => k_is); (case m51 => k_is)
      (case a52 => k_is); (case l52 => k_is); (case k52 => k_is); (case m52 => k_is)
      (case a53 => k_is); (case l53 => k_is); (case k53 => k_is); (case m53 => k_is)
      (case a54 => k_is); (case l54 => k_is); (case k54 => k_is); (case m54 => k_is)
      (case a55 => k_is); (case l55 => k_is); (case k55 => k_is); (case m55 => k_is)
      (case a56 => k_is); (case l56 => k_is); (case k56 => k_is); (case m56 => k_is)
      (case da => k_is); (case dl => k_is); (case d0 => k_is); (case d1 => k_is); (case d2 => k_is); (case d3 => k_is); (case d4 => k_is); (case d5 => k_is); (case d6 => k_is); (case d7 => k_is); (case d8 => k_is); (case d9 => k_is); (case d10 => k_is)
      (case na => k_is); (case nal => k_is)
      (case nb => k_is); (case nbl => k_is)
