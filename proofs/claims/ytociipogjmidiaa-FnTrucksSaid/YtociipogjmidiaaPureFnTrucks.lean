/- THE PURE SIDE OF FnTrucks: the printed functions of the reference and of the program give the same results. Plain Lean: no memory and no Go. -/
import Derived.Test.YtociipogjmidiaaPFnTrucksx7
import Derived.OpenShut
import Derived.Laws.Bits64b
namespace Go.Proofs.Ytociipogjmidiaa.Pure
open Go.RowKit Go.Proofs.Ytociipogjmidiaa.PFnTrucks Go.Proofs.YtociipogjmidiaaW.PrintWords Go.Proofs.YtociipogjmidiaaW.PrintLast Go.Proofs.YtociipogjmidiaaW.PrintMore
set_option linter.unusedVariables false
set_option linter.unusedSimpArgs false

theorem w64 {x : Int} (h1 : -9223372036854775808 ≤ x) (h2 : x ≤ 9223372036854775807) : wrap64 x = x := by unfold wrap64; omega
theorem w64s {i : Nat} (h : i ≤ 9000000000000000000) : wrap64 ((i : Int) + 1) = ((i + 1 : Nat) : Int) := by rw [w64 (by omega) (by omega)]; omega
theorem rd_nat (l : List Int) (i : Nat) (h : i < l.length) : rd l (i : Int) = l[i] := by simp [rd, List.getD_eq_getElem?_getD, h]
def inr (lo hi x : Int) : Bool := decide (lo ≤ x) && decide (x ≤ hi)
theorem inr_iff (lo hi x : Int) : inr lo hi x = true ↔ lo ≤ x ∧ x ≤ hi := by simp [inr]
theorem inr_false (lo hi x : Int) : inr lo hi x = false ↔ ¬ (lo ≤ x ∧ x ≤ hi) := by rw [← inr_iff, Bool.not_eq_true]
theorem mx_of_ge {a b : Int} (h : b ≤ a) : mx a b = a := if_neg (by omega)
theorem mx_spec (a b : Int) : a ≤ mx a b ∧ b ≤ mx a b ∧ (mx a b = a ∨ mx a b = b) := by unfold mx; split <;> omega
theorem l1In_eq (a b c : Int) : spec_l1In.f a b c = some (inr b c a) := by
  unfold spec_l1In.f inr
  by_cases h : a ≥ b
  · rw [if_pos h]; simp [show b ≤ a from h]
  · rw [if_neg h]; simp [show ¬ b ≤ a from h]
theorem l1Most_eq (a b : Int) : spec_l1Most.f a b = some (mx a b) := by
  unfold spec_l1Most.f mx
  by_cases h : a > b
  · rw [if_pos h, if_neg (by omega)]
  · rw [if_neg h]
    by_cases h2 : a < b
    · rw [if_pos h2]
    · rw [if_neg h2, show a = b from by omega]
theorem l1All_l0 (lo hi : Int) (l : List Int) (hl : l.length ≤ 9000000000000000000) : ∀ (d k i : Nat), i + d = l.length → d < k → spec_l1All.l0 k lo hi l (l.length : Int) (i : Int) = some ((l.drop i).all (inr lo hi)) := by
  intro d
  induction d with
  | zero =>
    intro k i hi' hk
    obtain ⟨k, rfl⟩ : ∃ m, k = m + 1 := ⟨k - 1, by omega⟩
    simp only [spec_l1All.l0]
    rw [if_neg (by omega), List.drop_of_length_le (by omega)]; rfl
  | succ d ih =>
    intro k i hi' hk
    obtain ⟨k, rfl⟩ : ∃ m, k = m + 1 := ⟨k - 1, by omega⟩
    have hlt : i < l.length := by omega
    simp only [spec_l1All.l0]
    rw [if_pos (by omega), if_pos (by omega), if_pos (by omega), l1In_eq, List.drop_eq_getElem_cons hlt, List.all_cons, rd_nat l i hlt, w64s (by omega), ih k (i + 1) (by omega) (by omega)]
    simp only [Option.bind_some]
    by_cases h : inr lo hi l[i] = true
    · rw [if_pos h, h, Bool.true_and]
    · rw [if_neg h, Bool.eq_false_iff.mpr h, Bool.false_and]
theorem l1All_eq (lo hi : Int) (l : List Int) (hl : l.length ≤ 9000000000000000000) (k : Nat) (hk : l.length < k) : spec_l1All.f k l lo hi = some (l.all (inr lo hi)) := by
  unfold spec_l1All.f
  exact l1All_l0 lo hi l hl l.length k 0 (by omega) hk
theorem isCycle_l0 (l : List Int) (hl : l.length ≤ 9000000000000000000) : ∀ (d k i : Nat), i + d = l.length → d < k → impl_IsCycle.l0 k l (l.length : Int) (i : Int) = some ((l.drop i).all (inr 1 100)) := by
  intro d
  induction d with
  | zero =>
    intro k i hi' hk
    obtain ⟨k, rfl⟩ : ∃ m, k = m + 1 := ⟨k - 1, by omega⟩
    simp only [impl_IsCycle.l0]
    rw [if_neg (by omega), List.drop_of_length_le (by omega)]; rfl
  | succ d ih =>
    intro k i hi' hk
    obtain ⟨k, rfl⟩ : ∃ m, k = m + 1 := ⟨k - 1, by omega⟩
    have hlt : i < l.length := by omega
    simp only [impl_IsCycle.l0]
    rw [if_pos (by omega), if_pos (by omega), if_pos (by omega), List.drop_eq_getElem_cons hlt, List.all_cons, rd_nat l i hlt, w64s (by omega), ih k (i + 1) (by omega) (by omega)]
    by_cases h : inr 1 100 l[i] = true
    · have h2 := (inr_iff _ _ _).1 h
      rw [if_neg (by omega), if_neg (by omega), h, Bool.true_and]
    · have h2 := (inr_false _ _ _).1 (Bool.eq_false_iff.mpr h)
      rw [Bool.eq_false_iff.mpr h, Bool.false_and]
      by_cases h3 : l[i] < 1
      · rw [if_pos h3]
      · rw [if_neg h3, if_pos (by omega)]
/-- What a valid cycle is. -/
def good (a b c d : Int) : Bool := [a, b, c, d].all (inr 1 100)
theorem good_iff (a b c d : Int) : good a b c d = true ↔ (1 ≤ a ∧ a ≤ 100) ∧ (1 ≤ b ∧ b ≤ 100) ∧ (1 ≤ c ∧ c ≤ 100) ∧ (1 ≤ d ∧ d ≤ 100) := by
  simp [good, inr]
theorem implIsCycle_eq (k : Nat) (hk : 10 ≤ k) (a b c d : Int) : impl_IsCycle.f k a b c d = some (good a b c d) := by
  unfold impl_IsCycle.f good
  simp only [Option.bind_some]
  exact isCycle_l0 [a, b, c, d] (by simp) 4 k 0 (by simp) (by omega)
theorem cyGood_eq (k : Nat) (hk : 10 ≤ k) (a b c d : Int) : spec_cyGood.f k a b c d = some (good a b c d) := by
  unfold spec_cyGood.f good
  rw [l1All_eq 1 100 [a, b, c, d] (by simp) k (by simp; omega)]
  rfl
def asked (a b c d m n : Int) : Bool := good a b c d && (inr 1 12 m && inr 0 200 n)
theorem asked_iff (a b c d m n : Int) : asked a b c d m n = true ↔ good a b c d = true ∧ (1 ≤ m ∧ m ≤ 12) ∧ (0 ≤ n ∧ n ≤ 200) := by
  simp [asked, inr]
theorem cyAsked_eq (k : Nat) (hk : 10 ≤ k) (a b c d m n : Int) : spec_cyAsked.f k a b c d m n = some (asked a b c d m n) := by
  unfold spec_cyAsked.f asked spec_cyTrucks.f
  rw [cyGood_eq k hk]
  simp only [Option.bind_some, l1In_eq]
  cases good a b c d <;> cases inr 1 12 m <;> simp
theorem areTrucks_eq (k : Nat) (hk : 10 ≤ k) (a b c d m n : Int) : impl_areTrucks.f k a b c d m n = some (asked a b c d m n) := by
  unfold impl_areTrucks.f asked inr
  rw [implIsCycle_eq k hk]
  simp only [Option.bind_some, ge_iff_le]
  cases good a b c d
  · simp
  · by_cases h1 : 1 ≤ m <;> by_cases h2 : m ≤ 12 <;> by_cases h3 : 0 ≤ n <;> simp [h1, h2, h3]
theorem cyTime_eq {a b c d : Int} (h : good a b c d = true) : spec_cyTime.f a b c d = some (a + b + c + d) := by
  have h := (good_iff _ _ _ _).1 h
  unfold spec_cyTime.f
  rw [w64 (x := a + b) (by omega) (by omega), w64 (x := a + b + c) (by omega) (by omega), w64 (x := a + b + c + d) (by omega) (by omega)]
theorem implTime_eq {a b c d : Int} (h : good a b c d = true) : impl_cycleTime.f a b c d = some (a + b + c + d) := by
  have h := (good_iff _ _ _ _).1 h
  unfold impl_cycleTime.f
  rw [w64 (x := a + b) (by omega) (by omega), w64 (x := a + b + c) (by omega) (by omega), w64 (x := a + b + c + d) (by omega) (by omega)]
theorem cySlow_eq (a b c d : Int) : spec_cySlow.f a b c d = some (mx a c) := by
  unfold spec_cySlow.f
  rw [l1Most_eq]; rfl
theorem specCycleTime_eq (k : Nat) (hk : 10 ≤ k) (a b c d : Int) : spec_CycleTime.f k a b c d = some (if good a b c d = true then (a + b + c + d, true) else (0, false)) := by
  unfold spec_CycleTime.f
  rw [cyGood_eq k hk]
  simp only [Option.bind_some]
  by_cases h : good a b c d = true
  · rw [if_pos h, if_pos h, cyTime_eq h]; rfl
  · rw [if_neg h, if_neg h]
theorem implCycleTime_eq (k : Nat) (hk : 10 ≤ k) (a b c d : Int) : impl_CycleTime.f k a b c d = some (if good a b c d = true then (a + b + c + d, true) else (0, false)) := by
  unfold impl_CycleTime.f
  rw [implIsCycle_eq k hk]
  simp only [Option.bind_some]
  by_cases h : good a b c d = true
  · rw [if_pos h, if_pos h, implTime_eq h]; rfl
  · rw [if_neg h, if_neg h]
/-- The greater one of the cycle's time and of what the slower place needs for all trucks. -/
def roundOf (a b c d m : Int) : Int := mx (a + b + c + d) (m * mx a c)
theorem slow_times {a b c d m n : Int} (h : asked a b c d m n = true) : 1 ≤ mx a c ∧ mx a c ≤ 100 ∧ 1 ≤ m * mx a c ∧ m * mx a c ≤ 1200 ∧ wrap64 (m * mx a c) = m * mx a c := by
  obtain ⟨h1, h2, _⟩ := (asked_iff _ _ _ _ _ _).1 h
  have h1 := (good_iff _ _ _ _).1 h1
  have hm := mx_spec a c
  have h3 : 1 ≤ mx a c := by omega
  have h4 : mx a c ≤ 100 := by omega
  have h5 : 1 * 1 ≤ m * mx a c := Int.mul_le_mul (by omega) h3 (by omega) (by omega)
  have h6 : m * mx a c ≤ 12 * 100 := Int.mul_le_mul (by omega) h4 (by omega) (by omega)
  exact ⟨h3, h4, by omega, by omega, w64 (by omega) (by omega)⟩
theorem specRoundTime_eq (k : Nat) (hk : 10 ≤ k) (a b c d m : Int) : spec_RoundTime.f k a b c d m = some (if asked a b c d m 0 = true then (roundOf a b c d m, true) else (0, false)) := by
  unfold spec_RoundTime.f roundOf
  rw [cyAsked_eq k hk]
  simp only [Option.bind_some]
  by_cases h : asked a b c d m 0 = true
  · have hg := ((asked_iff _ _ _ _ _ _).1 h).1
    rw [if_pos h, if_pos h, cyTime_eq hg, cySlow_eq]
    simp only [Option.bind_some, l1Most_eq]
    rw [(slow_times h).2.2.2.2]
  · rw [if_neg h, if_neg h]
theorem implRoundTime_eq (k : Nat) (hk : 10 ≤ k) (a b c d m : Int) : impl_RoundTime.f k a b c d m = some (if asked a b c d m 0 = true then (roundOf a b c d m, true) else (0, false)) := by
  unfold impl_RoundTime.f roundOf
  rw [areTrucks_eq k hk]
  simp only [Option.bind_some]
  by_cases h : asked a b c d m 0 = true
  · have hg := ((asked_iff _ _ _ _ _ _).1 h).1
    rw [if_pos h, if_pos h, implTime_eq hg]
    simp only [Option.bind_some]
    rw [(slow_times h).2.2.2.2]
  · rw [if_neg h, if_neg h]
/-- How many trucks keep the slower place busy. -/
def leastOf (a b c d : Int) : Int := (a + b + c + d + mx a c - 1) / mx a c
theorem least_bounds {a b c d : Int} (h : good a b c d = true) : 1 ≤ leastOf a b c d ∧ leastOf a b c d ≤ 500 ∧ mx a c ≠ 0 ∧ wrap64 (Int.tdiv (wrap64 ((wrap64 (a + b + c + d + mx a c)) - 1)) (mx a c)) = leastOf a b c d := by
  have h1 := (good_iff _ _ _ _).1 h
  have hm := mx_spec a c
  have h3 : 1 ≤ mx a c := by omega
  have h4 : mx a c ≤ 100 := by omega
  unfold leastOf
  have l1 : 1 ≤ (a + b + c + d + mx a c - 1) / mx a c := (Int.le_ediv_iff_mul_le (by omega)).2 (by omega)
  have l2 : (a + b + c + d + mx a c - 1) / mx a c ≤ 500 := by
    have := Int.ediv_le_self (a := a + b + c + d + mx a c - 1) (mx a c) (by omega)
    omega
  refine ⟨l1, l2, by omega, ?_⟩
  rw [w64 (x := a + b + c + d + mx a c) (by omega) (by omega), w64 (x := a + b + c + d + mx a c - 1) (by omega) (by omega), Int.tdiv_eq_ediv_of_nonneg (by omega), w64 (by omega) (by omega)]
theorem specLeastTrucks_eq (k : Nat) (hk : 10 ≤ k) (a b c d : Int) : spec_LeastTrucks.f k a b c d = some (if good a b c d = true then (if leastOf a b c d ≤ 12 then (leastOf a b c d, true) else (0, false)) else (0, false)) := by
  unfold spec_LeastTrucks.f
  rw [cyGood_eq k hk]
  simp only [Option.bind_some]
  by_cases h : good a b c d = true
  · obtain ⟨b1, b2, b3, b4⟩ := least_bounds h
    rw [if_pos h, if_pos h, cyTime_eq h, cySlow_eq]
    simp only [Option.bind_some]
    rw [if_neg b3, b4]
    unfold spec_cyTrucks.f
    rw [l1In_eq]
    simp only [Option.bind_some]
    by_cases h12 : leastOf a b c d ≤ 12
    · rw [if_pos ((inr_iff _ _ _).2 ⟨b1, h12⟩), if_pos h12]
    · rw [if_neg (fun x => h12 ((inr_iff _ _ _).1 x).2), if_neg h12]
  · rw [if_neg h, if_neg h]
theorem implLeastTrucks_eq (k : Nat) (hk : 10 ≤ k) (a b c d : Int) : impl_LeastTrucks.f k a b c d = some (if good a b c d = true then (if leastOf a b c d ≤ 12 then (leastOf a b c d, true) else (0, false)) else (0, false)) := by
  unfold impl_LeastTrucks.f
  rw [implIsCycle_eq k hk]
  simp only [Option.bind_some]
  by_cases h : good a b c d = true
  · obtain ⟨b1, b2, b3, b4⟩ := least_bounds h
    rw [if_pos h, if_pos h, implTime_eq h]
    simp only [Option.bind_some]
    rw [if_neg b3, b4]
    by_cases h12 : leastOf a b c d ≤ 12
    · rw [if_neg (by omega), if_pos h12]
    · rw [if_pos (by omega), if_neg h12]
  · rw [if_neg h, if_neg h]
/-- A fraction in lowest terms, by its greatest common divisor. -/
def partOf (a b : Int) : Int × Int := (a / ((Nat.gcd a.toNat b.toNat : Nat) : Int), b / ((Nat.gcd a.toNat b.toNat : Nat) : Int))
theorem part_l0 (a b : Int) (ha : 0 ≤ a) (hb : 0 ≤ b) (ha2 : a ≤ 1000000) (hb2 : b ≤ 1000000) : ∀ (n k : Nat) (x y : Int), 0 ≤ x → 0 ≤ y → y.toNat < n → n ≤ k → 0 < x + y → Nat.gcd x.toNat y.toNat = Nat.gcd a.toNat b.toNat → spec_moPart.l0 k a b x y = some (partOf a b) ∧ impl_lowest.l0 k a b x y = some (partOf a b) := by
  intro n
  induction n with
  | zero => intro k x y _ _ h; omega
  | succ n ih =>
    intro k x y hx hy hn hk hp hg
    obtain ⟨k, rfl⟩ : ∃ m, k = m + 1 := ⟨k - 1, by omega⟩
    simp only [spec_moPart.l0, impl_lowest.l0]
    by_cases h : y = 0
    · subst h
      rw [if_neg (show ¬ (0 : Int) > 0 by omega), if_pos rfl, if_neg (show ¬ x = 0 by omega)]
      have e : ((Nat.gcd a.toNat b.toNat : Nat) : Int) = x := by rw [← hg]; simp; omega
      have q1 := Int.ediv_le_self (a := a) x ha
      have q2 := Int.ediv_le_self (a := b) x hb
      have q3 : 0 ≤ a / x := Int.ediv_nonneg ha hx
      have q4 : 0 ≤ b / x := Int.ediv_nonneg hb hx
      unfold partOf
      rw [e, Int.tdiv_eq_ediv_of_nonneg ha, Int.tdiv_eq_ediv_of_nonneg hb, w64 (by omega) (by omega), w64 (by omega) (by omega)]
      exact ⟨rfl, rfl⟩
    · rw [if_pos (by omega), if_neg h, if_neg h]
      have e : Int.tmod x y = ((x.toNat % y.toNat : Nat) : Int) := by
        rw [Int.tmod_eq_emod_of_nonneg hx, Int.natCast_emod, Int.toNat_of_nonneg hx, Int.toNat_of_nonneg hy]
      have hlt : x.toNat % y.toNat < y.toNat := Nat.mod_lt _ (by omega)
      rw [e]
      refine ih k y ((x.toNat % y.toNat : Nat) : Int) hy (by omega) (by simp only [Int.toNat_natCast]; omega) (by omega) (by omega) ?_
      simp only [Int.toNat_natCast]
      rw [← hg, Nat.gcd_comm x.toNat y.toNat, Nat.gcd_rec y.toNat x.toNat, Nat.gcd_comm]
theorem moPart_eq (k : Nat) (a b : Int) (ha : 0 ≤ a) (hb : 1 ≤ b) (ha2 : a ≤ 1000000) (hb2 : b ≤ 1000000) (hk : 1000002 ≤ k) : spec_moPart.f k a b = some (partOf a b) := by
  unfold spec_moPart.f
  exact (part_l0 a b ha (by omega) ha2 hb2 1000001 k a b ha (by omega) (by omega) (by omega) (by omega) rfl).1
theorem lowest_eq (k : Nat) (a b : Int) (ha : 0 ≤ a) (hb : 1 ≤ b) (ha2 : a ≤ 1000000) (hb2 : b ≤ 1000000) (hk : 1000002 ≤ k) : impl_lowest.f k a b = some (partOf a b) := by
  unfold impl_lowest.f impl_abs.f
  simp only [Option.bind_some]
  rw [w64 (by omega) (by omega), mx_of_ge (by omega)]
  exact (part_l0 a b ha (by omega) ha2 hb2 1000001 k a b ha (by omega) (by omega) (by omega) (by omega) rfl).2
theorem slow_times2 {a b c d m n : Int} (h : asked a b c d m n = true) : 1 ≤ mx a c ∧ mx a c ≤ 100 ∧ 1 ≤ m * mx a c ∧ m * mx a c ≤ 1200 ∧ wrap64 (m * mx a c) = m * mx a c := by
  obtain ⟨h1, h2, _⟩ := (asked_iff _ _ _ _ _ _).1 h
  have h1 := (good_iff _ _ _ _).1 h1
  have hm := mx_spec a c
  have h3 : 1 ≤ mx a c := by omega
  have h4 : mx a c ≤ 100 := by omega
  have h5 : 1 * 1 ≤ m * mx a c := Int.mul_le_mul (by omega) h3 (by omega) (by omega)
  have h6 : m * mx a c ≤ 12 * 100 := Int.mul_le_mul (by omega) h4 (by omega) (by omega)
  exact ⟨h3, h4, by omega, by omega, w64 (by omega) (by omega)⟩
theorem specMatchFactor_eq (k : Nat) (hk : 1000002 ≤ k) (a b c d m : Int) : spec_MatchFactor.f k a b c d m = some (if asked a b c d m 0 = true then ((partOf (m * mx a c) (a + b + c + d)).1, (partOf (m * mx a c) (a + b + c + d)).2, true) else (0, 0, false)) := by
  unfold spec_MatchFactor.f
  rw [cyAsked_eq k (by omega)]
  simp only [Option.bind_some]
  by_cases h : asked a b c d m 0 = true
  · have hg := ((asked_iff _ _ _ _ _ _).1 h).1
    have hs := slow_times2 h
    have hb := (good_iff _ _ _ _).1 hg
    rw [if_pos h, if_pos h, cyTime_eq hg, cySlow_eq]
    simp only [Option.bind_some]
    rw [hs.2.2.2.2, moPart_eq k _ _ (by omega) (by omega) (by omega) (by omega) hk]
    rfl
  · rw [if_neg h, if_neg h]
theorem implMatchFactor_eq (k : Nat) (hk : 1000002 ≤ k) (a b c d m : Int) : impl_MatchFactor.f k a b c d m = some (if asked a b c d m 0 = true then ((partOf (m * mx a c) (a + b + c + d)).1, (partOf (m * mx a c) (a + b + c + d)).2, true) else (0, 0, false)) := by
  unfold impl_MatchFactor.f
  rw [areTrucks_eq k (by omega)]
  simp only [Option.bind_some]
  by_cases h : asked a b c d m 0 = true
  · have hg := ((asked_iff _ _ _ _ _ _).1 h).1
    have hs := slow_times2 h
    have hb := (good_iff _ _ _ _).1 hg
    rw [if_pos h, if_pos h, implTime_eq hg]
    simp only [Option.bind_some]
    rw [hs.2.2.2.2, lowest_eq k _ _ (by omega) (by omega) (by omega) (by omega) hk]
    rfl
  · rw [if_neg h, if_neg h]
/-! The run: begins and ends of loads, waits, when the shovel and the crusher are free, how long the shovel was idle. -/
structure CS where
  b : List Int
  e : List Int
  w : Int
  s : Int
  c : Int
  i : Int
/-- When the truck of load k is back. -/
def there (R : Int) (m k : Nat) (x : CS) : Int := if m ≤ k then x.e.getD (k - m) 0 + R else 0
def startOf (R : Int) (m k : Nat) (x : CS) : Int := mx (there R m k x) x.s
def dumpOf (L H R : Int) (m k : Nat) (x : CS) : Int := mx (startOf R m k x + L + H) x.c
def cyStep (L H D R : Int) (m k : Nat) (x : CS) : CS :=
  ⟨x.b ++ [startOf R m k x], x.e ++ [dumpOf L H R m k x + D], x.w + (startOf R m k x - there R m k x + dumpOf L H R m k x - (startOf R m k x + L + H)), startOf R m k x + L, dumpOf L H R m k x + D, if k = 0 then 0 else x.i + (startOf R m k x - x.s)⟩
def cyS (L H D R : Int) (m : Nat) : Nat → CS
  | 0 => ⟨[], [], 0, 0, 0, 0⟩
  | k + 1 => cyStep L H D R m k (cyS L H D R m k)
theorem getD_snoc (l : List Int) (x : Int) (j : Nat) : (l ++ [x]).getD j 0 = if j = l.length then x else l.getD j 0 := by
  simp only [List.getD_eq_getElem?_getD]
  by_cases h : j < l.length
  · rw [List.getElem?_append_left h, if_neg (by omega)]
  · by_cases h2 : j = l.length
    · subst h2; simp
    · rw [if_neg h2, List.getElem?_eq_none (by simp; omega), List.getElem?_eq_none (by omega)]
/-- What holds behind k loads. -/
structure CyInv (L D : Int) (k : Nat) (x : CS) : Prop where
  lb : x.b.length = k
  le : x.e.length = k
  ends : ∀ j : Nat, 0 ≤ x.e.getD j 0 ∧ x.e.getD j 0 ≤ x.c
  wait : 0 ≤ x.w ∧ x.w ≤ 200000 * (k : Int)
  shovel : 0 ≤ x.s ∧ x.s ≤ 400 * (k : Int)
  crusher : 0 ≤ x.c ∧ x.c ≤ 400 * (k : Int)
  begins : ∀ j : Nat, 0 ≤ x.b.getD j 0 ∧ x.b.getD j 0 ≤ 400 * (k : Int)
  idle : 0 ≤ x.i ∧ x.i ≤ x.s
  last : 1 ≤ k → x.s = x.b.getD (k - 1) 0 + L ∧ x.c = x.e.getD (k - 1) 0 ∧ x.i = x.b.getD (k - 1) 0 + L - x.b.getD 0 0 - (k : Int) * L
  none : k = 0 → x.s = 0 ∧ x.c = 0 ∧ x.i = 0
  rise : ∀ i j : Nat, i < j → j < k → x.e.getD i 0 + D ≤ x.e.getD j 0
theorem there_bounds {L D R : Int} (hR : 0 ≤ R ∧ R ≤ 100) (m k : Nat) {x : CS} (I : CyInv L D k x) : 0 ≤ there R m k x ∧ there R m k x ≤ x.c + 100 := by
  unfold there
  have := I.ends (k - m)
  have := I.crusher
  split <;> omega
/-- A valid cycle's times. -/
structure Times (L H D R : Int) : Prop where
  L : 1 ≤ L ∧ L ≤ 100
  H : 1 ≤ H ∧ H ≤ 100
  D : 1 ≤ D ∧ D ≤ 100
  R : 1 ≤ R ∧ R ≤ 100
theorem step_inv {L H D R : Int} (t : Times L H D R) (m k : Nat) (hk : k < 200) {x : CS} (I : CyInv L D k x) : CyInv L D (k + 1) (cyStep L H D R m k x) := by
  obtain ⟨hL, hH, hD, hR⟩ := t
  have ht := there_bounds (R := R) (by omega) m k I
  have hs : there R m k x ≤ startOf R m k x ∧ x.s ≤ startOf R m k x ∧ (startOf R m k x = there R m k x ∨ startOf R m k x = x.s) := mx_spec _ _
  have hd : startOf R m k x + L + H ≤ dumpOf L H R m k x ∧ x.c ≤ dumpOf L H R m k x ∧ (dumpOf L H R m k x = startOf R m k x + L + H ∨ dumpOf L H R m k x = x.c) := mx_spec _ _
  have i1 := I.wait
  have i2 := I.shovel
  have i3 := I.crusher
  have i4 := I.idle
  have hk1 : ((k + 1 : Nat) : Int) = (k : Int) + 1 := by omega
  refine ⟨?_, ?_, fun j => ?_, ?_, ?_, ?_, fun j => ?_, ?_, fun _ => ?_, fun h => by omega, fun i j hij hj => ?_⟩
  · simp [cyStep, I.lb]
  · simp [cyStep, I.le]
  · simp only [cyStep, getD_snoc, I.le]
    have i5 := I.ends j
    split <;> omega
  · simp only [cyStep]; omega
  · simp only [cyStep]; omega
  · simp only [cyStep]; omega
  · simp only [cyStep, getD_snoc, I.lb]
    have i5 := I.begins j
    split <;> omega
  · simp only [cyStep]
    split <;> omega
  · simp only [cyStep, getD_snoc, I.lb, I.le, Nat.add_sub_cancel, if_true]
    refine ⟨trivial, trivial, ?_⟩
    by_cases h0 : k = 0
    · subst h0; simp; omega
    · have i6 := (I.last (by omega)).1
      have i7 := (I.last (by omega)).2.2
      rw [if_neg h0, if_neg (by omega), i7, hk1, Int.add_mul]
      omega
  · simp only [cyStep, getD_snoc, I.le]
    rw [if_neg (by omega)]
    by_cases hjk : j = k
    · rw [if_pos hjk]
      have i8 := I.ends i
      omega
    · rw [if_neg hjk]
      exact I.rise i j hij (by omega)
theorem cyS_inv {L H D R : Int} (t : Times L H D R) (m : Nat) : ∀ k : Nat, k ≤ 200 → CyInv L D k (cyS L H D R m k) := by
  intro k
  induction k with
  | zero => exact fun _ => ⟨rfl, rfl, fun j => by simp [cyS], by simp [cyS], by simp [cyS], by simp [cyS], fun j => by simp [cyS], by simp [cyS], fun h => by omega, fun _ => ⟨rfl, rfl, rfl⟩, fun _ _ _ h => by omega⟩
  | succ k ih => exact fun hk => step_inv t m k (by omega) (ih (by omega))
/-- The reference's loop. -/
theorem cyRun_l0 {L H D R : Int} (t : Times L H D R) (m n : Nat) (hm : 1 ≤ m) (hm2 : m ≤ 12) (hn : n ≤ 200) : ∀ (d K k : Nat), k + d = n → d < K →
    spec_cyRun.l0 K (m : Int) (n : Int) (cyS L H D R m k).b (cyS L H D R m k).e (cyS L H D R m k).w (cyS L H D R m k).s (cyS L H D R m k).c (k : Int) L H D R = some ((cyS L H D R m n).b, (cyS L H D R m n).e, (cyS L H D R m n).w) := by
  intro d
  induction d with
  | zero =>
    intro K k hk hK
    obtain ⟨K, rfl⟩ : ∃ j, K = j + 1 := ⟨K - 1, by omega⟩
    obtain rfl : k = n := by omega
    simp only [spec_cyRun.l0]
    rw [if_neg (by omega)]
  | succ d ih =>
    intro K k hk hK
    obtain ⟨K, rfl⟩ : ∃ j, K = j + 1 := ⟨K - 1, by omega⟩
    have I := cyS_inv t m k (by omega)
    have h := ih K (k + 1) (by omega) (by omega)
    rw [show cyS L H D R m (k + 1) = cyStep L H D R m k (cyS L H D R m k) from rfl] at h
    generalize cyS L H D R m k = x at I h ⊢
    obtain ⟨hL, hH, hD, hR⟩ := t
    have ht := there_bounds (R := R) (by omega) m k I
    have hs : there R m k x ≤ startOf R m k x ∧ x.s ≤ startOf R m k x ∧ (startOf R m k x = there R m k x ∨ startOf R m k x = x.s) := mx_spec _ _
    have hd : startOf R m k x + L + H ≤ dumpOf L H R m k x ∧ x.c ≤ dumpOf L H R m k x ∧ (dumpOf L H R m k x = startOf R m k x + L + H ∨ dumpOf L H R m k x = x.c) := mx_spec _ _
    have i1 := I.wait
    have i2 := I.shovel
    have i3 := I.crusher
    have i4 := I.le
    have i5 := I.lb
    have e0 : mx (there R m k x) x.s = startOf R m k x := rfl
    have e1 : mx (startOf R m k x + L + H) x.c = dumpOf L H R m k x := rfl
    simp only [cyStep] at h
    simp only [spec_cyRun.l0]
    rw [if_pos (by omega)]
    by_cases hc : m ≤ k
    · have e2 : rd x.e (wrap64 ((k : Int) - (m : Int))) + R = there R m k x := by
        rw [w64 (by omega) (by omega)]
        unfold there rd
        rw [if_pos hc, show ((k : Int) - (m : Int)).toNat = k - m from by omega]
      rw [if_pos (by omega), if_pos (by rw [w64 (by omega) (by omega)]; omega), if_pos (by rw [w64 (by omega) (by omega)]; omega), e2]
      simp only [l1Most_eq, Option.bind_some]
      simp (disch := omega) only [w64, e0, e1]
      rw [if_pos (by omega), if_pos (by omega), ← h]
      congr 1 <;> omega
    · have e2 : (0 : Int) = there R m k x := by
        unfold there
        rw [if_neg hc]
      rw [if_neg (by omega)]
      simp only [l1Most_eq, Option.bind_some]
      rw [e2]
      simp (disch := omega) only [w64, e0, e1]
      rw [if_pos (by omega), if_pos (by omega), ← h]
      congr 1 <;> omega
theorem cyRun_eq {L H D R : Int} (t : Times L H D R) (m n : Nat) (hm : 1 ≤ m) (hm2 : m ≤ 12) (hn : n ≤ 200) (K : Nat) (hK : n < K) : spec_cyRun.f K L H D R (m : Int) (n : Int) = some ((cyS L H D R m n).b, (cyS L H D R m n).e, (cyS L H D R m n).w) := by
  unfold spec_cyRun.f
  exact cyRun_l0 t m n hm hm2 hn n K 0 (by omega) hK
/-- The program's loop. -/
theorem runCycle_l0 {L H D R : Int} (t : Times L H D R) (m n : Nat) (hm : 1 ≤ m) (hm2 : m ≤ 12) (hn : n ≤ 200) : ∀ (d K k : Nat), k + d = n → 2 * d < K →
    impl_runCycle.l0 K (m : Int) (n : Int) (cyS L H D R m k).e (cyS L H D R m k).w (cyS L H D R m k).i (cyS L H D R m k).s (k : Int) L H D R = some ((cyS L H D R m n).e, (cyS L H D R m n).w, (cyS L H D R m n).i) := by
  intro d
  induction d with
  | zero =>
    intro K k hk hK
    obtain ⟨K, rfl⟩ : ∃ j, K = j + 1 := ⟨K - 1, by omega⟩
    obtain rfl : k = n := by omega
    simp only [impl_runCycle.l0]
    rw [if_neg (by omega)]
  | succ d ih =>
    intro K k hk hK
    obtain ⟨K, rfl⟩ : ∃ j, K = j + 2 := ⟨K - 2, by omega⟩
    have I := cyS_inv t m k (by omega)
    have h := ih K (k + 1) (by omega) (by omega)
    rw [show cyS L H D R m (k + 1) = cyStep L H D R m k (cyS L H D R m k) from rfl] at h
    generalize cyS L H D R m k = x at I h ⊢
    obtain ⟨hL, hH, hD, hR⟩ := t
    have ht := there_bounds (R := R) (by omega) m k I
    have hs : there R m k x ≤ startOf R m k x ∧ x.s ≤ startOf R m k x ∧ (startOf R m k x = there R m k x ∨ startOf R m k x = x.s) := mx_spec _ _
    have hd : startOf R m k x + L + H ≤ dumpOf L H R m k x ∧ x.c ≤ dumpOf L H R m k x ∧ (dumpOf L H R m k x = startOf R m k x + L + H ∨ dumpOf L H R m k x = x.c) := mx_spec _ _
    have i1 := I.wait
    have i2 := I.shovel
    have i3 := I.crusher
    have i4 := I.le
    have i5 := I.idle
    have i6 := I.last
    have i7 := I.none
    have e0 : mx (there R m k x) x.s = startOf R m k x := rfl
    have e1 : mx (startOf R m k x + L + H) x.c = dumpOf L H R m k x := rfl
    simp only [cyStep] at h
    have key : impl_runCycle.j1 (K + 1) (m : Int) (n : Int) x.e x.w x.i x.s (k : Int) (there R m k x) 0 L H D R = some ((cyS L H D R m n).e, (cyS L H D R m n).w, (cyS L H D R m n).i) := by
      simp only [impl_runCycle.j1]
      by_cases hk0 : k = 0
      · have h7 := i7 hk0
        have e3 : mx (startOf R m k x + L + H) 0 = dumpOf L H R m k x := by rw [← e1, h7.2.1]
        rw [if_neg (by omega)]
        simp (disch := omega) only [w64, e0, e3]
        rw [if_pos (by omega), ← h]
        congr 1
        · omega
        · rw [if_pos hk0]; omega
      · have h6 := i6 (by omega)
        have e3 : rd x.e (wrap64 ((k : Int) - 1)) = x.c := by
          rw [w64 (by omega) (by omega), h6.2.1]
          unfold rd
          rw [show ((k : Int) - 1).toNat = k - 1 from by omega]
        rw [if_pos (by omega), if_pos (by rw [w64 (by omega) (by omega)]; omega), if_pos (by rw [w64 (by omega) (by omega)]; omega), e3]
        simp (disch := omega) only [w64, e0, e1]
        rw [if_pos (by omega), ← h]
        congr 1
        · omega
        · rw [if_neg hk0]
    simp only [impl_runCycle.l0]
    rw [if_pos (by omega)]
    by_cases hc : m ≤ k
    · have e2 : rd x.e (wrap64 ((k : Int) - (m : Int))) + R = there R m k x := by
        rw [w64 (by omega) (by omega)]
        unfold there rd
        rw [if_pos hc, show ((k : Int) - (m : Int)).toNat = k - m from by omega]
      rw [if_pos (by omega), if_pos (by rw [w64 (by omega) (by omega)]; omega), if_pos (by rw [w64 (by omega) (by omega)]; omega), e2, w64 (by omega) (by omega)]
      exact key
    · have e2 : there R m k x = 0 := by
        unfold there
        rw [if_neg hc]
      rw [if_neg (by omega)]
      rw [e2] at key
      exact key
theorem runCycle_eq {L H D R : Int} (t : Times L H D R) (m n : Nat) (hm : 1 ≤ m) (hm2 : m ≤ 12) (hn : n ≤ 200) (K : Nat) (hK : 2 * n < K) : impl_runCycle.f K L H D R (m : Int) (n : Int) = some ((cyS L H D R m n).e, (cyS L H D R m n).w, (cyS L H D R m n).i) := by
  unfold impl_runCycle.f
  exact runCycle_l0 t m n hm hm2 hn n K 0 (by omega) hK
/-- What is asked, in whole numbers. -/
theorem asked_nat {a b c d m n : Int} (h : asked a b c d m n = true) : Times a b c d ∧ ∃ m' n' : Nat, m = m' ∧ n = n' ∧ 1 ≤ m' ∧ m' ≤ 12 ∧ n' ≤ 200 := by
  obtain ⟨h1, h2, h3⟩ := (asked_iff _ _ _ _ _ _).1 h
  have h1 := (good_iff _ _ _ _).1 h1
  exact ⟨⟨h1.1, h1.2.1, h1.2.2.1, h1.2.2.2⟩, m.toNat, n.toNat, by omega, by omega, by omega, by omega, by omega⟩
/-- How many ends are not behind a time: all of them lie ahead of those that are. -/
def upTo (e : List Int) (t : Int) (n : Nat) : Prop := n ≤ e.length ∧ (∀ j : Nat, j < n → e.getD j 0 ≤ t) ∧ ∀ j : Nat, n ≤ j → j < e.length → t < e.getD j 0
theorem cyLoads_l0 (t : Int) (e : List Int) (hl : e.length ≤ 1000) (hr : ∀ i j : Nat, i < j → j < e.length → e.getD i 0 ≤ e.getD j 0) : ∀ (d K i : Nat), i + d = e.length → d < K → (∀ j : Nat, j < i → e.getD j 0 ≤ t) → ∃ n : Nat, spec_cyLoads.l0 K t e (i : Int) = some (n : Int) ∧ upTo e t n := by
  intro d
  induction d with
  | zero =>
    intro K i hi hK hb
    obtain ⟨K, rfl⟩ : ∃ j, K = j + 1 := ⟨K - 1, by omega⟩
    refine ⟨i, ?_, by omega, hb, fun j h1 h2 => by omega⟩
    simp only [spec_cyLoads.l0]
    rw [if_neg (by omega)]
  | succ d ih =>
    intro K i hi hK hb
    obtain ⟨K, rfl⟩ : ∃ j, K = j + 1 := ⟨K - 1, by omega⟩
    simp only [spec_cyLoads.l0]
    rw [if_pos (by omega), if_pos (by omega), w64s (by omega)]
    have er : rd e (i : Int) = e.getD i 0 := rfl
    rw [er]
    by_cases h : e.getD i 0 ≤ t
    · rw [if_pos h]
      refine ih K (i + 1) (by omega) (by omega) fun j hj => ?_
      by_cases hji : j = i
      · rw [hji]; exact h
      · exact hb j (by omega)
    · rw [if_neg h]
      refine ⟨i, rfl, by omega, hb, fun j h1 h2 => ?_⟩
      by_cases hji : j = i
      · rw [hji]; omega
      · have := hr i j (by omega) h2
        omega
theorem ends_prefix {L H D R : Int} (t : Times L H D R) (m n : Nat) : ∀ d : Nat, n + d ≤ 200 → ∀ j : Nat, j < n → (cyS L H D R m (n + d)).e.getD j 0 = (cyS L H D R m n).e.getD j 0 := by
  intro d
  induction d with
  | zero => exact fun _ _ _ => rfl
  | succ d ih =>
    intro hd j hj
    have I := cyS_inv t m (n + d) (by omega)
    rw [← ih (by omega) j hj, show cyS L H D R m (n + (d + 1)) = cyStep L H D R m (n + d) (cyS L H D R m (n + d)) from rfl]
    simp only [cyStep, getD_snoc, I.le]
    rw [if_neg (by omega)]
theorem cyLoads_eq {L H D R : Int} (ti : Times L H D R) (m : Nat) (hm : 1 ≤ m) (hm2 : m ≤ 12) (t : Int) (k : Nat) (hk : 500 ≤ k) : ∃ n : Nat, spec_cyLoads.f k L H D R (m : Int) t = some (n : Int) ∧ upTo (cyS L H D R m 200).e t n := by
  have I := cyS_inv ti m 200 (by omega)
  have hle : (cyS L H D R m 200).e.length ≤ 1000 := by rw [I.le]; omega
  have hr : ∀ i j : Nat, i < j → j < (cyS L H D R m 200).e.length → (cyS L H D R m 200).e.getD i 0 ≤ (cyS L H D R m 200).e.getD j 0 := by
    intro i j h1 h2
    have h3 := I.rise i j h1 (by rw [← I.le]; exact h2)
    have h4 := ti.D
    omega
  obtain ⟨n, hn, hu⟩ := cyLoads_l0 t (cyS L H D R m 200).e hle hr (cyS L H D R m 200).e.length k 0 (by omega) (by rw [I.le]; omega) (fun j hj => by omega)
  refine ⟨n, ?_, hu⟩
  unfold spec_cyLoads.f
  rw [show (200 : Int) = ((200 : Nat) : Int) from rfl, cyRun_eq ti m 200 hm hm2 (by omega) k (by omega)]
  simp only [Option.bind_some]
  exact hn
/-- Enough loads by t: the last of n has ended by then. -/
theorem enough {L H D R : Int} (ti : Times L H D R) (m n : Nat) (hn : n ≤ 200) {t : Int} {q : Nat} (hu : upTo (cyS L H D R m 200).e t q) : n ≤ q ↔ (n = 0 ∨ (cyS L H D R m n).e.getD (n - 1) 0 ≤ t) := by
  have I := cyS_inv ti m 200 (by omega)
  by_cases h0 : n = 0
  · simp [h0]
  · have e := ends_prefix ti m n (200 - n) (by omega) (n - 1) (by omega)
    rw [show n + (200 - n) = 200 from by omega] at e
    rw [← e]
    constructor
    · intro h
      exact .inr (hu.2.1 (n - 1) (by omega))
    · rintro (h | h)
      · exact absurd h h0
      · by_cases hq : n ≤ q
        · exact hq
        · have := hu.2.2 (n - 1) (by omega) (by rw [I.le]; omega)
          omega
theorem trucksFor_l0 {L H D R : Int} (ti : Times L H D R) (n : Nat) (hn : n ≤ 200) (t : Int) : ∀ (d K x : Nat), x + d = 13 → 1 ≤ x → d + 500 < K → ∃ r, spec_TrucksFor.l0 K (n : Int) t (x : Int) L H D R = some r ∧ impl_TrucksFor.l0 K (n : Int) t (x : Int) L H D R = some r ∧ (r = (0, false) ∨ ∃ y : Nat, r = ((y : Int), true) ∧ x ≤ y ∧ y ≤ 12 ∧ (∃ q, upTo (cyS L H D R y 200).e t q ∧ n ≤ q) ∧ ∀ z : Nat, x ≤ z → z < y → ∃ q, upTo (cyS L H D R z 200).e t q ∧ q < n) := by
  intro d
  induction d with
  | zero =>
    intro K x hx h1 hK
    obtain ⟨K, rfl⟩ : ∃ j, K = j + 1 := ⟨K - 1, by omega⟩
    refine ⟨(0, false), ?_, ?_, .inl rfl⟩
    · simp only [spec_TrucksFor.l0]
      rw [if_neg (by omega)]
    · simp only [impl_TrucksFor.l0]
      rw [if_neg (by omega)]
  | succ d ih =>
    intro K x hx h1 hK
    obtain ⟨K, rfl⟩ : ∃ j, K = j + 1 := ⟨K - 1, by omega⟩
    obtain ⟨q, hq, hu⟩ := cyLoads_eq ti x h1 (by omega) t K (by omega)
    have hr := runCycle_eq ti x n h1 (by omega) hn K (by omega)
    have he := enough ti x n hn hu
    have I := cyS_inv ti x n hn
    have hl := I.le
    obtain ⟨r, i1, i2, i3⟩ := ih K (x + 1) (by omega) (by omega) (by omega)
    simp only [spec_TrucksFor.l0, impl_TrucksFor.l0]
    rw [if_pos (by omega), if_pos (by omega), hq, hr, w64s (by omega)]
    simp only [Option.bind_some]
    have ew : n ≠ 0 → rd (cyS L H D R x n).e (wrap64 ((n : Int) - 1)) = (cyS L H D R x n).e.getD (n - 1) 0 := by
      intro h0
      rw [w64 (by omega) (by omega)]
      unfold rd
      rw [show ((n : Int) - 1).toNat = n - 1 from by omega]
    by_cases hc : n ≤ q
    · refine ⟨((x : Int), true), by rw [if_pos (by omega)], ?_, .inr ⟨x, rfl, Nat.le_refl _, by omega, ⟨q, hu, hc⟩, fun z h2 h3 => by omega⟩⟩
      by_cases h0 : n = 0
      · rw [if_pos (by omega)]
      · have h3 := he.1 hc
        rw [if_neg (by omega), if_pos (by rw [w64 (by omega) (by omega)]; omega), if_pos (by rw [w64 (by omega) (by omega)]; omega), ew h0, if_pos (by omega)]
    · have h3 : ¬ (n = 0 ∨ (cyS L H D R x n).e.getD (n - 1) 0 ≤ t) := fun h => hc (he.2 h)
      refine ⟨r, by rw [if_neg (by omega)]; exact i1, ?_, ?_⟩
      · rw [if_neg (by omega), if_pos (by rw [w64 (by omega) (by omega)]; omega), if_pos (by rw [w64 (by omega) (by omega)]; omega), ew (by omega), if_neg (by omega)]
        exact i2
      · rcases i3 with i3 | ⟨y, e, j1, j2, j3, j4⟩
        · exact .inl i3
        · refine .inr ⟨y, e, by omega, j2, j3, fun z h4 h5 => ?_⟩
          by_cases hz : z = x
          · subst hz
            exact ⟨q, hu, by omega⟩
          · exact j4 z (by omega) h5
theorem trucksFor_eq (k : Nat) (hk : 600 ≤ k) (a b c d n t : Int) : ∃ r, spec_TrucksFor.f k a b c d n t = some r ∧ impl_TrucksFor.f k a b c d n t = some r ∧ (r = (0, false) ∨ asked a b c d 1 n = true ∧ 0 ≤ t ∧ t ≤ 100000 ∧ ∃ y : Nat, r = ((y : Int), true) ∧ 1 ≤ y ∧ y ≤ 12 ∧ (∃ q, upTo (cyS a b c d y 200).e t q ∧ n ≤ q) ∧ ∀ z : Nat, 1 ≤ z → z < y → ∃ q : Nat, upTo (cyS a b c d z 200).e t q ∧ (q : Int) < n) := by
  obtain ⟨k, rfl⟩ : ∃ j, k = j + 1 := ⟨k - 1, by omega⟩
  unfold spec_TrucksFor.f impl_TrucksFor.f spec_cyClock.f
  rw [cyAsked_eq (k + 1) (by omega), areTrucks_eq (k + 1) (by omega)]
  simp only [Option.bind_some, l1In_eq]
  by_cases h : asked a b c d 1 n = true
  · obtain ⟨ti, m, n, _, rfl, _, _, hn⟩ := asked_nat h
    rw [if_pos h, if_pos h]
    by_cases h0 : 0 ≤ t
    · by_cases h1 : t ≤ 100000
      · obtain ⟨r, i1, i2, i3⟩ := trucksFor_l0 ti n hn t 12 k 1 (by omega) (by omega) (by omega)
        refine ⟨r, ?_, ?_, ?_⟩
        · simp only [spec_TrucksFor.j0]
          rw [(inr_iff _ _ _).2 ⟨h0, h1⟩, if_neg (by simp)]
          exact i1
        · rw [if_neg (by omega)]
          simp only [impl_TrucksFor.j0]
          rw [if_neg (by simp; omega)]
          exact i2
        · rcases i3 with i3 | ⟨y, e, j1, j2, ⟨q, j3, j3'⟩, j4⟩
          · exact .inl i3
          · refine .inr ⟨h, h0, h1, y, e, j1, j2, ⟨q, j3, by omega⟩, fun z h2 h3 => ?_⟩
            obtain ⟨q, j5, j6⟩ := j4 z h2 h3
            exact ⟨q, j5, by omega⟩
      · refine ⟨(0, false), ?_, ?_, .inl rfl⟩
        · simp only [spec_TrucksFor.j0]
          rw [(inr_false _ _ _).2 (by omega), if_pos (by simp)]
        · rw [if_neg (by omega)]
          simp only [impl_TrucksFor.j0]
          rw [if_pos (by simp; omega)]
    · refine ⟨(0, false), ?_, ?_, .inl rfl⟩
      · simp only [spec_TrucksFor.j0]
        rw [(inr_false _ _ _).2 (by omega), if_pos (by simp)]
      · rw [if_pos (by omega)]
        simp only [impl_TrucksFor.j0]
        rw [if_pos trivial]
  · refine ⟨(0, false), ?_, ?_, .inl rfl⟩
    · rw [if_neg h]
      simp only [spec_TrucksFor.j0]
      rw [if_pos trivial]
    · rw [if_neg h]
      simp only [impl_TrucksFor.j0]
      rw [if_pos trivial]
/-! The draws: every byte string gives some numbers. -/
def bytes (l : List Int) : Prop := ∀ x ∈ l, 0 ≤ x ∧ x ≤ 255
theorem bytes_of {l : List Int} (h : ∀ x ∈ l, (Lit.int .u8 x).wf = true) : bytes l := by
  exact fun x hx => bounds_u8 (h x hx)
theorem and255 (a : Int) : 0 ≤ Go.bits .and .u64 (IntKind.u64.wrap a / 1099511627776) 255 ∧ Go.bits .and .u64 (IntKind.u64.wrap a / 1099511627776) 255 ≤ 255 := by
  have hw : 0 ≤ IntKind.u64.wrap a ∧ IntKind.u64.wrap a ≤ 18446744073709551615 := bounds_u64 (wf_wrap .u64 a)
  obtain ⟨n, hn⟩ : ∃ n : Nat, IntKind.u64.wrap a / 1099511627776 = (n : Int) := ⟨(IntKind.u64.wrap a / 1099511627776).toNat, by omega⟩
  rw [hn, show (255 : Int) = ((255 : Nat) : Int) from rfl, bits_and_u64_nat n 255 (by omega) (by omega)]
  have := Nat.and_le_right (n := n) (m := 255)
  omega
theorem next_ok {l : List Int} (hl : bytes l) (hn : l.length ≤ maxLen) {p : Int} (s : Int) (h0 : 0 ≤ p) (h1 : p ≤ 4000000000000000000) : ∃ b s', spec_l1Cur_next.f l p s = some (b, p + 1, s') ∧ 0 ≤ b ∧ b ≤ 255 := by
  unfold maxLen at hn
  unfold spec_l1Cur_next.f
  rw [w64 (x := p + 1) (by omega) (by omega)]
  have ha : ∀ a : Int, 0 ≤ wrap64 (Go.bits .and .u64 (IntKind.u64.wrap a / 1099511627776) 255) ∧ wrap64 (Go.bits .and .u64 (IntKind.u64.wrap a / 1099511627776) 255) ≤ 255 := by
    intro a
    have := and255 a
    rw [w64 (by omega) (by omega)]
    exact this
  by_cases c : p < (l.length : Int)
  · obtain ⟨q, rfl⟩ : ∃ q : Nat, p = (q : Int) := ⟨p.toNat, by omega⟩
    have hb := hl _ (List.getElem_mem (by omega : q < l.length))
    rw [if_pos c, if_pos h0, rd_nat l q (by omega)]
    have e : wrap64 l[q] = l[q] := w64 (by omega) (by omega)
    split
    · exact ⟨_, _, rfl, by rw [e]; exact hb.1, by rw [e]; exact hb.2⟩
    · exact ⟨_, _, rfl, (ha _).1, (ha _).2⟩
  · rw [if_neg c]
    split
    · exact ⟨_, _, rfl, by omega, by omega⟩
    · exact ⟨_, _, rfl, (ha _).1, (ha _).2⟩
theorem pick_ok {l : List Int} (hl : bytes l) (hn : l.length ≤ maxLen) {p : Int} (s n : Int) (h0 : 0 ≤ p) (h1 : p ≤ 4000000000000000000 - 2) : ∃ x p' s', spec_l1Cur_pick.f l p s n = some (x, p', s') ∧ 0 ≤ x ∧ (x < n ∨ x = 0) ∧ x ≤ 65535 ∧ p ≤ p' ∧ p' ≤ p + 2 := by
  unfold spec_l1Cur_pick.f
  by_cases c : n ≤ 1
  · rw [if_pos c]
    exact ⟨_, _, _, rfl, by omega, .inr rfl, by omega, by omega, by omega⟩
  · rw [if_neg c]
    obtain ⟨b, s1, e1, b0, b1⟩ := next_ok hl hn s h0 (by omega)
    rw [e1]
    simp only [Option.bind_some]
    by_cases c2 : n > 200
    · obtain ⟨b', s2, e2, b2, b3⟩ := next_ok hl hn s1 (p := p + 1) (by omega) (by omega)
      rw [if_pos c2, e2]
      simp only [Option.bind_some]
      rw [if_neg (by omega), w64 (x := b * 256) (by omega) (by omega), w64 (by omega) (by omega), Int.tmod_eq_emod_of_nonneg (by omega)]
      have := Int.emod_nonneg (b * 256 + b') (b := n) (by omega)
      have := Int.emod_lt_of_pos (b * 256 + b') (b := n) (by omega)
      have := Int.mul_ediv_add_emod (b * 256 + b') n
      have := Int.mul_nonneg (a := n) (b := (b * 256 + b') / n) (by omega) (Int.ediv_nonneg (by omega) (by omega))
      exact ⟨_, _, _, rfl, by omega, .inl (by omega), by omega, by omega, by omega⟩
    · rw [if_neg c2, if_neg (by omega), Int.tmod_eq_emod_of_nonneg (by omega)]
      have := Int.emod_nonneg b (b := n) (by omega)
      have := Int.emod_lt_of_pos b (b := n) (by omega)
      exact ⟨_, _, _, rfl, by omega, .inl (by omega), by omega, by omega, by omega⟩
theorem among_ok {l : List Int} (hl : bytes l) (hn : l.length ≤ maxLen) {p : Int} (s : Int) (xs : List Int) (hx : xs ≠ []) (h0 : 0 ≤ p) (h1 : p ≤ 4000000000000000000 - 2) : ∃ x p' s', spec_l1Cur_among.f l p s xs = some (x, p', s') ∧ x ∈ xs ∧ p ≤ p' ∧ p' ≤ p + 2 := by
  unfold spec_l1Cur_among.f
  obtain ⟨x, p', s', e, x0, x1, _, p0, p1⟩ := pick_ok hl hn s (xs.length : Int) h0 h1
  have hp := List.length_pos_iff.2 hx
  obtain ⟨q, rfl⟩ : ∃ q : Nat, x = (q : Int) := ⟨x.toNat, by omega⟩
  rw [e]
  simp only [Option.bind_some]
  rw [if_pos x0, if_pos (by omega), rd_nat xs q (by omega)]
  exact ⟨_, _, _, rfl, List.getElem_mem _, p0, p1⟩

theorem cycle_ok {l : List Int} (hl : bytes l) (hn : l.length ≤ maxLen) {p : Int} (s : Int) (h0 : 0 ≤ p) (h1 : p ≤ 3000000000000000000) : ∃ a b c d p' s', spec_l1Cur_cycle.f l p s = some (a, b, c, d, p', s') ∧ p ≤ p' ∧ p' ≤ p + 20 := by
  unfold spec_l1Cur_cycle.f
  obtain ⟨x1, p1, s1, e1, _, _, _, q1, r1⟩ := pick_ok hl hn s 9 h0 (by omega)
  obtain ⟨x2, p2, s2, e2, _, _, _, q2, r2⟩ := pick_ok hl hn s1 30 (p := p1) (by omega) (by omega)
  obtain ⟨x3, p3, s3, e3, _, _, _, q3, r3⟩ := pick_ok hl hn s2 6 (p := p2) (by omega) (by omega)
  obtain ⟨x4, p4, s4, e4, _, _, _, q4, r4⟩ := pick_ok hl hn s3 25 (p := p3) (by omega) (by omega)
  obtain ⟨x5, p5, s5, e5, _, _, _, q5, r5⟩ := pick_ok hl hn s4 24 (p := p4) (by omega) (by omega)
  obtain ⟨x6, p6, s6, e6, _, q6, r6⟩ := among_ok hl hn s5 [0, 100, 101] (by simp) (p := p5) (by omega) (by omega)
  simp only [e1, e2, e3, e4, e5, e6, Option.bind_some]
  by_cases c0 : x5 = 0
  · rw [if_pos c0]; exact ⟨_, _, _, _, _, _, rfl, by omega, by omega⟩
  · rw [if_neg c0]
    by_cases c1 : x5 = 1
    · rw [if_pos c1]; exact ⟨_, _, _, _, _, _, rfl, by omega, by omega⟩
    · rw [if_neg c1]
      by_cases c2 : x5 = 2
      · rw [if_pos c2]; exact ⟨_, _, _, _, _, _, rfl, by omega, by omega⟩
      · rw [if_neg c2]
        by_cases c3 : x5 = 3
        · rw [if_pos c3]; exact ⟨_, _, _, _, _, _, rfl, by omega, by omega⟩
        · rw [if_neg c3]; exact ⟨_, _, _, _, _, _, rfl, by omega, by omega⟩
theorem trucks_ok {l : List Int} (hl : bytes l) (hn : l.length ≤ maxLen) {p : Int} (s : Int) (h0 : 0 ≤ p) (h1 : p ≤ 3000000000000000000) : ∃ x p' s', spec_l1Cur_trucks.f l p s = some (x, p', s') ∧ p ≤ p' ∧ p' ≤ p + 2 := by
  unfold spec_l1Cur_trucks.f
  obtain ⟨x, p', s', e, _, q, r⟩ := among_ok hl hn s [1, 2, 3, 4, 6, 8, 12, 13, 0] (by simp) h0 (by omega)
  rw [e]; exact ⟨_, _, _, rfl, q, r⟩
theorem loads_ok {l : List Int} (hl : bytes l) (hn : l.length ≤ maxLen) {p : Int} (s : Int) (h0 : 0 ≤ p) (h1 : p ≤ 3000000000000000000) : ∃ x p' s', spec_l1Cur_loads.f l p s = some (x, p', s') ∧ p ≤ p' ∧ p' ≤ p + 2 := by
  unfold spec_l1Cur_loads.f
  obtain ⟨x, p', s', e, _, q, r⟩ := among_ok hl hn s [0, 1, 2, 5, 12, 40, 200, 201, (-1)] (by simp) h0 (by omega)
  rw [e]; exact ⟨_, _, _, rfl, q, r⟩
theorem drawIs_ok {l : List Int} (hl : bytes l) (hn : l.length ≤ maxLen) : ∃ a b c d, spec_DrawIsCycle.f l = some (a, b, c, d) := by
  unfold spec_DrawIsCycle.f
  obtain ⟨a, b, c, d, p1, s1, e1, q1, r1⟩ := cycle_ok hl hn 0 (p := 0) (by omega) (by omega)
  simp only [e1, Option.bind_some]
  exact ⟨_, _, _, _, rfl⟩
theorem drawFor_ok {l : List Int} (hl : bytes l) (hn : l.length ≤ maxLen) : ∃ a b c d m n, spec_DrawTrucksFor.f l = some (a, b, c, d, m, n) := by
  unfold spec_DrawTrucksFor.f
  obtain ⟨a, b, c, d, p1, s1, e1, q1, r1⟩ := cycle_ok hl hn 0 (p := 0) (by omega) (by omega)
  obtain ⟨m, p2, s2, e2, q2, r2⟩ := loads_ok hl hn s1 (p := p1) (by omega) (by omega)
  obtain ⟨x, p3, s3, e3, _, _, _, q3, r3⟩ := pick_ok hl hn s2 900 (p := p2) (by omega) (by omega)
  obtain ⟨n, p4, s4, e4, _, q4, r4⟩ := among_ok hl hn s3 [0, 20, 100, x, 100000, 100001, -1] (by simp) (p := p3) (by omega) (by omega)
  simp only [e1, e2, e3, e4, Option.bind_some]
  exact ⟨_, _, _, _, _, _, rfl⟩
theorem drawMatch_ok {l : List Int} (hl : bytes l) (hn : l.length ≤ maxLen) : ∃ a b c d m, spec_DrawMatchFactor.f l = some (a, b, c, d, m) := by
  unfold spec_DrawMatchFactor.f
  obtain ⟨a, b, c, d, p1, s1, e1, q1, r1⟩ := cycle_ok hl hn 0 (p := 0) (by omega) (by omega)
  obtain ⟨m, p2, s2, e2, q2, r2⟩ := trucks_ok hl hn s1 (p := p1) (by omega) (by omega)
  simp only [e1, e2, Option.bind_some]
  exact ⟨_, _, _, _, _, rfl⟩
theorem qSlow_eq (a b c d : Int) : laws_qSlow.f a b c d = some (mx a c) := by
  unfold laws_qSlow.f mx
  by_cases h : a > c
  · rw [if_pos h, if_neg (by omega)]
  · rw [if_neg h]
    by_cases h2 : a < c
    · rw [if_pos h2]
    · rw [if_neg h2, show a = c from by omega]
theorem loadsBy_l0 (t : Int) (e : List Int) (hl : e.length ≤ 1000) {n : Nat} (hu : upTo e t n) : ∀ (d K i : Nat), i + d = e.length → d < K → impl_LoadsBy.l0 K t ((min i n : Nat) : Int) e (e.length : Int) (i : Int) = some ((n : Int), true) := by
  intro d
  induction d with
  | zero =>
    intro K i hi hK
    obtain ⟨K, rfl⟩ : ∃ j, K = j + 1 := ⟨K - 1, by omega⟩
    have := hu.1
    simp only [impl_LoadsBy.l0]
    rw [if_neg (by omega), Nat.min_eq_right (by omega)]
  | succ d ih =>
    intro K i hi hK
    obtain ⟨K, rfl⟩ : ∃ j, K = j + 1 := ⟨K - 1, by omega⟩
    have er : rd e (i : Int) = e.getD i 0 := rfl
    simp only [impl_LoadsBy.l0]
    rw [if_pos (by omega), if_pos (by omega), if_pos (by omega), er]
    have h := ih K (i + 1) (by omega) (by omega)
    by_cases hin : i < n
    · rw [if_pos (hu.2.1 i hin), w64s (by omega), w64s (by omega), ← h]
      congr 1
      omega
    · rw [if_neg (by have := hu.2.2 i (by omega) (by omega); omega), w64s (by omega), ← h]
      congr 1
      omega
theorem implLoadsBy_eq {a b c d t : Int} {m q : Nat} (k : Nat) (hk : 500 ≤ k) (h : asked a b c d m 0 = true) (h0 : 0 ≤ t) (h1 : t ≤ 100000) (hu : upTo (cyS a b c d m 200).e t q) : impl_LoadsBy.f k a b c d m t = some ((q : Int), true) := by
  obtain ⟨k, rfl⟩ : ∃ j, k = j + 1 := ⟨k - 1, by omega⟩
  unfold impl_LoadsBy.f
  rw [areTrucks_eq (k + 1) (by omega)]
  simp only [Option.bind_some]
  obtain ⟨ti, m', n, e, _, hm, hm2, _⟩ := asked_nat h
  obtain rfl : m = m' := by omega
  have I := cyS_inv ti m 200 (by omega)
  have hle : (cyS a b c d m 200).e.length ≤ 1000 := by rw [I.le]; omega
  have hi := loadsBy_l0 t (cyS a b c d m 200).e hle hu (cyS a b c d m 200).e.length k 0 (by omega) (by rw [I.le]; omega)
  have ei := runCycle_eq ti m 200 hm hm2 (by omega) k (by omega)
  rw [if_pos h, if_neg (by omega)]
  simp only [impl_LoadsBy.j0]
  rw [if_neg (by simp; omega), show (200 : Int) = ((200 : Nat) : Int) from rfl, ei]
  simp only [Option.bind_some]
  simpa using hi
theorem part_facts (A B : Int) (hA : 0 ≤ A) (hB : 1 ≤ B) : ∃ g p q : Int, 1 ≤ g ∧ A = g * p ∧ B = g * q ∧ partOf A B = (p, q) ∧ 0 ≤ p ∧ 1 ≤ q := by
  have hg : 0 < Nat.gcd A.toNat B.toNat := Nat.gcd_pos_of_pos_right _ (by omega)
  obtain ⟨p, hp⟩ := Nat.gcd_dvd_left A.toNat B.toNat
  obtain ⟨q, hq⟩ := Nat.gcd_dvd_right A.toNat B.toNat
  refine ⟨(Nat.gcd A.toNat B.toNat : Nat), (p : Int), (q : Int), by omega, ?_, ?_, ?_, by omega, ?_⟩
  · rw [← Int.natCast_mul, ← hp]; omega
  · rw [← Int.natCast_mul, ← hq]; omega
  · unfold partOf
    have e1 : A = ((Nat.gcd A.toNat B.toNat : Nat) : Int) * (p : Int) := by rw [← Int.natCast_mul, ← hp]; omega
    have e2 : B = ((Nat.gcd A.toNat B.toNat : Nat) : Int) * (q : Int) := by rw [← Int.natCast_mul, ← hq]; omega
    generalize Nat.gcd A.toNat B.toNat = g at *
    rw [e1, e2, Int.mul_ediv_cancel_left _ (by omega), Int.mul_ediv_cancel_left _ (by omega)]
  · have : q ≠ 0 := by
      rintro rfl
      rw [Nat.mul_zero] at hq
      omega
    omega
theorem least_facts {a b c d : Int} (h : good a b c d = true) : a + b + c + d ≤ leastOf a b c d * mx a c ∧ (leastOf a b c d - 1) * mx a c < a + b + c + d := by
  have h1 := (good_iff _ _ _ _).1 h
  have hm := mx_spec a c
  unfold leastOf
  generalize hT : a + b + c + d = T
  generalize mx a c = S at *
  have e := Int.mul_ediv_add_emod (T + S - 1) S
  have r1 := Int.emod_nonneg (T + S - 1) (b := S) (by omega)
  have r2 := Int.emod_lt_of_pos (T + S - 1) (b := S) (by omega)
  rw [Int.sub_mul, Int.one_mul, Int.mul_comm ((T + S - 1) / S) S]
  omega
theorem FnTrucks : laws_FnTrucks.Pure := by
  intro l0 l1 h1 _ hw1 h2 _ hw2
  obtain ⟨a, b, c, d, e1⟩ := drawIs_ok (bytes_of hw1) h1
  obtain ⟨a1, b1, c1, d1, n, t, e2⟩ := drawFor_ok (bytes_of hw2) h2
  obtain ⟨a2, b2, c2, d2, m, e3⟩ := drawMatch_ok (bytes_of hw2) h2
  have e1' : spec_DrawLeastTrucks.f l0 = some (a, b, c, d) := by unfold spec_DrawLeastTrucks.f; rw [e1]; rfl
  obtain ⟨K, hK⟩ : ∃ K : Nat, 1000002 ≤ K := ⟨1000002, Nat.le_refl _⟩
  refine ⟨K + 4, ?_⟩
  unfold laws_FnTrucks.f
  by_cases c0 : wrap64 ((l0.length : Int) + (l1.length : Int)) > 1048576
  · rw [if_pos c0]
  rw [if_neg c0, e1']
  simp only [Option.bind_some]
  obtain ⟨r, hr1, hr2, hr3⟩ := trucksFor_eq (K + 4) (by omega) a1 b1 c1 d1 n t
  rw [specLeastTrucks_eq (K + 4) (by omega), implLeastTrucks_eq (K + 4) (by omega), e2]
  simp only [Option.bind_some]
  rw [hr1, hr2, e3]
  simp only [Option.bind_some]
  rw [specMatchFactor_eq (K + 4) (by omega), implMatchFactor_eq (K + 4) (by omega), specRoundTime_eq (K + 4) (by omega), implRoundTime_eq (K + 4) (by omega), specCycleTime_eq (K + 4) (by omega), implCycleTime_eq (K + 4) (by omega)]
  simp only [Option.bind_some, bne_self_eq_false, Bool.false_eq_true, if_false, if_true]
  -- the first cycle
  have J3 : ∀ (K : Nat), 20 ≤ K → laws_FnTrucks.j3 K (if good a b c d = true then (if leastOf a b c d ≤ 12 then (leastOf a b c d, true) else (0, false)) else (0, false)).2 (if good a b c d = true then (if leastOf a b c d ≤ 12 then (leastOf a b c d, true) else (0, false)) else (0, false)).1 (if good a b c d = true then (a + b + c + d, true) else (0, false)).1 a b c d = some true := by
    intro K hK
    obtain ⟨K, rfl⟩ : ∃ j, K = j + 1 := ⟨K - 1, by omega⟩
    simp only [laws_FnTrucks.j3]
    by_cases G : good a b c d = true
    · rw [if_pos G, if_pos G]
      by_cases L : leastOf a b c d ≤ 12
      · have lb := least_bounds G
        have lf := least_facts G
        have A : asked a b c d (leastOf a b c d) 0 = true := (asked_iff _ _ _ _ _ _).2 ⟨G, ⟨lb.1, L⟩, by omega⟩
        have st := slow_times A
        have g4 := (good_iff _ _ _ _).1 G
        rw [if_pos L]
        simp only [if_true]
        rw [implRoundTime_eq K (by omega), if_pos A]
        simp only [Option.bind_some, if_true, qSlow_eq]
        have hmx := mx_spec (a + b + c + d) (leastOf a b c d * mx a c)
        have er : roundOf a b c d (leastOf a b c d) = leastOf a b c d * mx a c := by unfold roundOf; omega
        rw [if_pos (by rw [st.2.2.2.2]; exact er), if_neg (by rw [st.2.2.2.2]; omega)]
        by_cases L1 : leastOf a b c d = 1
        · rw [if_pos L1]
        · have e5 : (leastOf a b c d - 1) * mx a c = leastOf a b c d * mx a c - mx a c := by rw [Int.sub_mul, Int.one_mul]
          rw [if_neg L1, w64 (x := leastOf a b c d - 1) (by omega) (by omega), w64 (by omega) (by omega), decide_eq_true lf.2]
      · rw [if_neg L]
        simp only [Bool.false_eq_true, if_false]
    · rw [if_neg G]
      simp only [Bool.false_eq_true, if_false]
  have J1 : ∀ (K : Nat), 600 ≤ K → laws_FnTrucks.j1 K (if good a b c d = true then (if leastOf a b c d ≤ 12 then (leastOf a b c d, true) else (0, false)) else (0, false)).2 (if good a b c d = true then (if leastOf a b c d ≤ 12 then (leastOf a b c d, true) else (0, false)) else (0, false)).1 n t r.2 r.1 (if good a b c d = true then (a + b + c + d, true) else (0, false)).1 a b c d a1 b1 c1 d1 = some true := by
    intro K hK
    obtain ⟨K, rfl⟩ : ∃ j, K = j + 1 := ⟨K - 1, by omega⟩
    simp only [laws_FnTrucks.j1]
    rcases hr3 with rfl | ⟨A, h0, h1, y, rfl, y1, y2, ⟨q, hu, hq⟩, hz⟩
    · simp only [Bool.false_eq_true, if_false]
      exact J3 K (by omega)
    · have g := (asked_iff _ _ _ _ _ _).1 A
      simp only [if_true]
      rw [implLoadsBy_eq K (by omega) ((asked_iff _ _ _ _ _ _).2 ⟨g.1, by omega, by omega⟩) h0 h1 hu]
      simp only [Option.bind_some, if_true]
      rw [decide_eq_false (by omega)]
      obtain ⟨K, rfl⟩ : ∃ j, K = j + 1 := ⟨K - 1, by omega⟩
      simp only [laws_FnTrucks.j2, Bool.false_eq_true, if_false]
      by_cases hy : y = 1
      · rw [if_neg (by omega)]
        exact J3 K (by omega)
      · obtain ⟨q2, hu2, hq2⟩ := hz (y - 1) (by omega) (by omega)
        rw [if_pos (by omega), w64 (x := (y : Int) - 1) (by omega) (by omega), show (y : Int) - 1 = ((y - 1 : Nat) : Int) from by omega, implLoadsBy_eq K (by omega) ((asked_iff _ _ _ _ _ _).2 ⟨g.1, by omega, by omega⟩) h0 h1 hu2]
        simp only [Option.bind_some, if_true]
        rw [if_neg (by omega)]
        exact J3 K (by omega)
  generalize (if good a b c d = true then (if leastOf a b c d ≤ 12 then (leastOf a b c d, true) else (0, false)) else (0, false)) = X at J1 ⊢
  generalize (if good a b c d = true then (a + b + c + d, true) else (0, false)).1 = Y at J1 ⊢
  by_cases A : asked a2 b2 c2 d2 m 0 = true
  · have G := ((asked_iff _ _ _ _ _ _).1 A).1
    have st := slow_times A
    have g4 := (good_iff _ _ _ _).1 G
    simp only [if_pos A, bne_self_eq_false, laws_FnTrucks.j0, Bool.false_eq_true, if_false, if_true]
    rw [specCycleTime_eq (K + 3) (by omega), implCycleTime_eq (K + 3) (by omega), if_pos G]
    simp only [Option.bind_some, if_true, qSlow_eq, st.2.2.2.2]
    have hJ := J1 (K + 3) (by omega)
    obtain ⟨g, p, q, hg, eA, eB, ep, hp, hq⟩ := part_facts (m * mx a2 c2) (a2 + b2 + c2 + d2) (by omega) (by omega)
    have hmx := mx_spec (a2 + b2 + c2 + d2) (m * mx a2 c2)
    rw [ep]
    unfold roundOf
    have h400 : a2 + b2 + c2 + d2 ≤ 400 := by omega
    generalize m * mx a2 c2 = M at *
    generalize a2 + b2 + c2 + d2 = T at *
    have hle : q ≤ p ↔ T ≤ M := by
      rw [eA, eB]
      exact ⟨fun h => Int.mul_le_mul_of_nonneg_left h (by omega), fun h => Int.le_of_mul_le_mul_left h (by omega)⟩
    have hgq : q ≤ T := by
      rw [eB]
      have := Int.mul_le_mul_of_nonneg_right hg (show (0 : Int) ≤ q by omega)
      omega
    have hgp : p ≤ M := by
      rw [eA]
      have := Int.mul_le_mul_of_nonneg_right hg (show (0 : Int) ≤ p by omega)
      omega
    have hmq : 0 ≤ mx T M * q ∧ mx T M * q ≤ 1200 * 400 := ⟨Int.mul_nonneg (by omega) (by omega), Int.mul_le_mul (by omega) (by omega) (by omega) (by omega)⟩
    have hpT : 0 ≤ p * T ∧ p * T ≤ 1200 * 400 := ⟨Int.mul_nonneg (by omega) (by omega), Int.mul_le_mul (by omega) (by omega) (by omega) (by omega)⟩
    have hb : ((decide (p ≥ q)) != (decide (M ≥ T))) = false := by
      by_cases h : T ≤ M
      · rw [decide_eq_true (show p ≥ q from hle.2 h), decide_eq_true (show M ≥ T from h)]; rfl
      · rw [decide_eq_false (show ¬ p ≥ q from fun x => h (hle.1 x)), decide_eq_false (show ¬ M ≥ T from h)]; rfl
    rw [hb]
    simp only [Bool.false_eq_true, if_false]
    by_cases h : p > q
    · have hM : mx T M = M := by have := hle.1 (by omega); omega
      have hpq : mx T M * q = p * T := by
        rw [hM]
        calc M * q = g * p * q := by rw [eA]
          _ = p * (g * q) := by rw [Int.mul_comm g p, Int.mul_assoc]
          _ = p * T := by rw [← eB]
      rw [if_pos h, w64 (by omega) (by omega), w64 (by omega) (by omega), if_pos hpq, if_neg (by omega)]
      exact hJ
    · have hT : mx T M = T := by
        by_cases h2 : T < M
        · exfalso
          have : q ≤ p := hle.2 (by omega)
          obtain rfl : p = q := by omega
          omega
        · omega
      rw [if_neg h, if_pos (by omega), if_pos hT]
      exact hJ
  · simp only [if_neg A, bne_self_eq_false, laws_FnTrucks.j0, Bool.false_eq_true, if_false]
    exact J1 (K + 3) (by omega)

end Go.Proofs.Ytociipogjmidiaa.Pure
