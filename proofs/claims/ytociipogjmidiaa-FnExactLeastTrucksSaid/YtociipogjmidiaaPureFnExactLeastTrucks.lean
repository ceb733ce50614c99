/- THE PURE SIDE OF FnExactLeastTrucks: the printed functions of the reference and of the program give the same results. Plain Lean: no memory and no Go. -/
import Derived.Test.YtociipogjmidiaaPFnExactLeastTrucksx2
import Derived.OpenShut
namespace Go.Proofs.Ytociipogjmidiaa.Pure
open Go.RowKit Go.Proofs.Ytociipogjmidiaa.PFnExactLeastTrucks Go.Proofs.YtociipogjmidiaaW.PrintWords Go.Proofs.YtociipogjmidiaaW.PrintLast Go.Proofs.YtociipogjmidiaaW.PrintMore
set_option linter.unusedVariables false
set_option linter.unusedSimpArgs false

theorem w64 {x : Int} (h1 : -9223372036854775808 ≤ x) (h2 : x ≤ 9223372036854775807) : wrap64 x = x := by unfold wrap64; omega
theorem w64s {i : Nat} (h : i ≤ 9000000000000000000) : wrap64 ((i : Int) + 1) = ((i + 1 : Nat) : Int) := by rw [w64 (by omega) (by omega)]; omega
theorem rd_nat (l : List Int) (i : Nat) (h : i < l.length) : rd l (i : Int) = l[i] := by simp [rd, List.getD_eq_getElem?_getD, h]
theorem wf64 {x : Int} (h : (Lit.int .i64 x).wf = true) : -9223372036854775808 ≤ x ∧ x ≤ 9223372036854775807 := by
  have := bounds_i64 h
  omega
def inr (lo hi x : Int) : Bool := decide (lo ≤ x) && decide (x ≤ hi)
theorem inr_iff (lo hi x : Int) : inr lo hi x = true ↔ lo ≤ x ∧ x ≤ hi := by simp [inr]
theorem inr_false (lo hi x : Int) : inr lo hi x = false ↔ ¬ (lo ≤ x ∧ x ≤ hi) := by rw [← inr_iff, Bool.not_eq_true]
theorem mx_of_lt {a b : Int} (h : a < b) : mx a b = b := if_pos h
theorem mx_of_ge {a b : Int} (h : b ≤ a) : mx a b = a := if_neg (by omega)
theorem mx_spec (a b : Int) : a ≤ mx a b ∧ b ≤ mx a b ∧ (mx a b = a ∨ mx a b = b) := by unfold mx; split <;> omega
theorem l1In_eq (a b c : Int) : spec_l1In.f a b c = some (inr b c a) := by
  unfold spec_l1In.f inr
  by_cases h : a ≥ b
  · rw [if_pos h]; simp [show b ≤ a from h]
  · rw [if_neg h]; simp [show ¬ b ≤ a from h]
theorem l1Most_eq (a b : Int) : spec_l1Most.f a b = some (mx a b) := by
  unfold spec_l1Most.f mx
  by_cases h : a > b
  · rw [if_pos h, if_neg (by omega)]
  · rw [if_neg h]
    by_cases h2 : a < b
    · rw [if_pos h2]
    · rw [if_neg h2, show a = b from by omega]
theorem l1All_l0 (lo hi : Int) (l : List Int) (hl : l.length ≤ 9000000000000000000) : ∀ (d k i : Nat), i + d = l.length → d < k → spec_l1All.l0 k lo hi l (l.length : Int) (i : Int) = some ((l.drop i).all (inr lo hi)) := by
  intro d
  induction d with
  | zero =>
    intro k i hi' hk
    obtain ⟨k, rfl⟩ : ∃ m, k = m + 1 := ⟨k - 1, by omega⟩
    simp only [spec_l1All.l0]
    rw [if_neg (by omega), List.drop_of_length_le (by omega)]; rfl
  | succ d ih =>
    intro k i hi' hk
    obtain ⟨k, rfl⟩ : ∃ m, k = m + 1 := ⟨k - 1, by omega⟩
    have hlt : i < l.length := by omega
    simp only [spec_l1All.l0]
    rw [if_pos (by omega), if_pos (by omega), if_pos (by omega), l1In_eq, List.drop_eq_getElem_cons hlt, List.all_cons, rd_nat l i hlt, w64s (by omega), ih k (i + 1) (by omega) (by omega)]
    simp only [Option.bind_some]
    by_cases h : inr lo hi l[i] = true
    · rw [if_pos h, h, Bool.true_and]
    · rw [if_neg h, Bool.eq_false_iff.mpr h, Bool.false_and]
theorem l1All_eq (lo hi : Int) (l : List Int) (hl : l.length ≤ 9000000000000000000) (k : Nat) (hk : l.length < k) : spec_l1All.f k l lo hi = some (l.all (inr lo hi)) := by
  unfold spec_l1All.f
  exact l1All_l0 lo hi l hl l.length k 0 (by omega) hk
theorem isCycle_l0 (l : List Int) (hl : l.length ≤ 9000000000000000000) : ∀ (d k i : Nat), i + d = l.length → d < k → impl_IsCycle.l0 k l (l.length : Int) (i : Int) = some ((l.drop i).all (inr 1 100)) := by
  intro d
  induction d with
  | zero =>
    intro k i hi' hk
    obtain ⟨k, rfl⟩ : ∃ m, k = m + 1 := ⟨k - 1, by omega⟩
    simp only [impl_IsCycle.l0]
    rw [if_neg (by omega), List.drop_of_length_le (by omega)]; rfl
  | succ d ih =>
    intro k i hi' hk
    obtain ⟨k, rfl⟩ : ∃ m, k = m + 1 := ⟨k - 1, by omega⟩
    have hlt : i < l.length := by omega
    simp only [impl_IsCycle.l0]
    rw [if_pos (by omega), if_pos (by omega), if_pos (by omega), List.drop_eq_getElem_cons hlt, List.all_cons, rd_nat l i hlt, w64s (by omega), ih k (i + 1) (by omega) (by omega)]
    by_cases h : inr 1 100 l[i] = true
    · have h2 := (inr_iff _ _ _).1 h
      rw [if_neg (by omega), if_neg (by omega), h, Bool.true_and]
    · have h2 := (inr_false _ _ _).1 (Bool.eq_false_iff.mpr h)
      rw [Bool.eq_false_iff.mpr h, Bool.false_and]
      by_cases h3 : l[i] < 1
      · rw [if_pos h3]
      · rw [if_neg h3, if_pos (by omega)]
/-- What a valid cycle is. -/
def good (a b c d : Int) : Bool := [a, b, c, d].all (inr 1 100)
theorem good_iff (a b c d : Int) : good a b c d = true ↔ (1 ≤ a ∧ a ≤ 100) ∧ (1 ≤ b ∧ b ≤ 100) ∧ (1 ≤ c ∧ c ≤ 100) ∧ (1 ≤ d ∧ d ≤ 100) := by
  simp [good, inr]
theorem implIsCycle_eq (k : Nat) (hk : 10 ≤ k) (a b c d : Int) : impl_IsCycle.f k a b c d = some (good a b c d) := by
  unfold impl_IsCycle.f good
  simp only [Option.bind_some]
  exact isCycle_l0 [a, b, c, d] (by simp) 4 k 0 (by simp) (by omega)
theorem cyGood_eq (k : Nat) (hk : 10 ≤ k) (a b c d : Int) : spec_cyGood.f k a b c d = some (good a b c d) := by
  unfold spec_cyGood.f good
  rw [l1All_eq 1 100 [a, b, c, d] (by simp) k (by simp; omega)]
  rfl
theorem toCycle_eq (a b c d : Int) : laws_toCycle.f a b c d = some (a, b, c, d) := rfl
theorem cyTime_eq {a b c d : Int} (h : good a b c d = true) : spec_cyTime.f a b c d = some (a + b + c + d) := by
  have h := (good_iff _ _ _ _).1 h
  unfold spec_cyTime.f
  rw [w64 (x := a + b) (by omega) (by omega), w64 (x := a + b + c) (by omega) (by omega), w64 (x := a + b + c + d) (by omega) (by omega)]
theorem implTime_eq {a b c d : Int} (h : good a b c d = true) : impl_cycleTime.f a b c d = some (a + b + c + d) := by
  have h := (good_iff _ _ _ _).1 h
  unfold impl_cycleTime.f
  rw [w64 (x := a + b) (by omega) (by omega), w64 (x := a + b + c) (by omega) (by omega), w64 (x := a + b + c + d) (by omega) (by omega)]
theorem cySlow_eq (a b c d : Int) : spec_cySlow.f a b c d = some (mx a c) := by
  unfold spec_cySlow.f
  rw [l1Most_eq]; rfl
/-- How many trucks keep the slower place busy. -/
def leastOf (a b c d : Int) : Int := (a + b + c + d + mx a c - 1) / mx a c
theorem least_bounds {a b c d : Int} (h : good a b c d = true) : 1 ≤ leastOf a b c d ∧ leastOf a b c d ≤ 500 ∧ mx a c ≠ 0 ∧ wrap64 (Int.tdiv (wrap64 ((wrap64 (a + b + c + d + mx a c)) - 1)) (mx a c)) = leastOf a b c d := by
  have h1 := (good_iff _ _ _ _).1 h
  have hm := mx_spec a c
  have h3 : 1 ≤ mx a c := by omega
  have h4 : mx a c ≤ 100 := by omega
  unfold leastOf
  have l1 : 1 ≤ (a + b + c + d + mx a c - 1) / mx a c := (Int.le_ediv_iff_mul_le (by omega)).2 (by omega)
  have l2 : (a + b + c + d + mx a c - 1) / mx a c ≤ 500 := by
    have := Int.ediv_le_self (a := a + b + c + d + mx a c - 1) (mx a c) (by omega)
    omega
  refine ⟨l1, l2, by omega, ?_⟩
  rw [w64 (x := a + b + c + d + mx a c) (by omega) (by omega), w64 (x := a + b + c + d + mx a c - 1) (by omega) (by omega), Int.tdiv_eq_ediv_of_nonneg (by omega), w64 (by omega) (by omega)]
theorem specLeastTrucks_eq (k : Nat) (hk : 10 ≤ k) (a b c d : Int) : spec_LeastTrucks.f k a b c d = some (if good a b c d = true then (if leastOf a b c d ≤ 12 then (leastOf a b c d, true) else (0, false)) else (0, false)) := by
  unfold spec_LeastTrucks.f
  rw [cyGood_eq k hk]
  simp only [Option.bind_some]
  by_cases h : good a b c d = true
  · obtain ⟨b1, b2, b3, b4⟩ := least_bounds h
    rw [if_pos h, if_pos h, cyTime_eq h, cySlow_eq]
    simp only [Option.bind_some]
    rw [if_neg b3, b4]
    unfold spec_cyTrucks.f
    rw [l1In_eq]
    simp only [Option.bind_some]
    by_cases h12 : leastOf a b c d ≤ 12
    · rw [if_pos ((inr_iff _ _ _).2 ⟨b1, h12⟩), if_pos h12]
    · rw [if_neg (fun x => h12 ((inr_iff _ _ _).1 x).2), if_neg h12]
  · rw [if_neg h, if_neg h]
theorem implLeastTrucks_eq (k : Nat) (hk : 10 ≤ k) (a b c d : Int) : impl_LeastTrucks.f k a b c d = some (if good a b c d = true then (if leastOf a b c d ≤ 12 then (leastOf a b c d, true) else (0, false)) else (0, false)) := by
  unfold impl_LeastTrucks.f
  rw [implIsCycle_eq k hk]
  simp only [Option.bind_some]
  by_cases h : good a b c d = true
  · obtain ⟨b1, b2, b3, b4⟩ := least_bounds h
    rw [if_pos h, if_pos h, implTime_eq h]
    simp only [Option.bind_some]
    rw [if_neg b3, b4]
    by_cases h12 : leastOf a b c d ≤ 12
    · rw [if_neg (by omega), if_pos h12]
    · rw [if_pos (by omega), if_neg h12]
  · rw [if_neg h, if_neg h]
theorem FnExactLeastTrucks (a b c d : Int) (_ : (Lit.int .i64 a).wf = true) (_ : (Lit.int .i64 b).wf = true) (_ : (Lit.int .i64 c).wf = true) (_ : (Lit.int .i64 d).wf = true) : ∃ k, laws_FnExactLeastTrucks.f k a b c d = some true := by
  refine ⟨10, ?_⟩
  unfold laws_FnExactLeastTrucks.f
  simp only [toCycle_eq, Option.bind_some, specLeastTrucks_eq 10 (by omega), implLeastTrucks_eq 10 (by omega), bne_self_eq_false, Bool.false_eq_true, if_false, if_true]
end Go.Proofs.Ytociipogjmidiaa.Pure
