/- THE PURE SIDE OF FnExactMatchFactor: the printed functions of the reference and of the program give the same results. Plain Lean: no memory and no Go. -/
import Derived.Test.YtociipogjmidiaaPFnExactMatchFactorx2
import Derived.OpenShut
namespace Go.Proofs.Ytociipogjmidiaa.Pure
open Go.RowKit Go.Proofs.Ytociipogjmidiaa.PFnExactMatchFactor Go.Proofs.YtociipogjmidiaaW.PrintWords Go.Proofs.YtociipogjmidiaaW.PrintLast Go.Proofs.YtociipogjmidiaaW.PrintMore
set_option linter.unusedVariables false
set_option linter.unusedSimpArgs false

theorem w64 {x : Int} (h1 : -9223372036854775808 ≤ x) (h2 : x ≤ 9223372036854775807) : wrap64 x = x := by unfold wrap64; omega
theorem w64s {i : Nat} (h : i ≤ 9000000000000000000) : wrap64 ((i : Int) + 1) = ((i + 1 : Nat) : Int) := by rw [w64 (by omega) (by omega)]; omega
theorem rd_nat (l : List Int) (i : Nat) (h : i < l.length) : rd l (i : Int) = l[i] := by simp [rd, List.getD_eq_getElem?_getD, h]
theorem wf64 {x : Int} (h : (Lit.int .i64 x).wf = true) : -9223372036854775808 ≤ x ∧ x ≤ 9223372036854775807 := by
  have := bounds_i64 h
  omega
def inr (lo hi x : Int) : Bool := decide (lo ≤ x) && decide (x ≤ hi)
theorem inr_iff (lo hi x : Int) : inr lo hi x = true ↔ lo ≤ x ∧ x ≤ hi := by simp [inr]
theorem inr_false (lo hi x : Int) : inr lo hi x = false ↔ ¬ (lo ≤ x ∧ x ≤ hi) := by rw [← inr_iff, Bool.not_eq_true]
theorem mx_of_lt {a b : Int} (h : a < b) : mx a b = b := if_pos h
theorem mx_of_ge {a b : Int} (h : b ≤ a) : mx a b = a := if_neg (by omega)
theorem mx_spec (a b : Int) : a ≤ mx a b ∧ b ≤ mx a b ∧ (mx a b = a ∨ mx a b = b) := by unfold mx; split <;> omega
theorem l1In_eq (a b c : Int) : spec_l1In.f a b c = some (inr b c a) := by
  unfold spec_l1In.f inr
  by_cases h : a ≥ b
  · rw [if_pos h]; simp [show b ≤ a from h]
  · rw [if_neg h]; simp [show ¬ b ≤ a from h]
theorem l1Most_eq (a b : Int) : spec_l1Most.f a b = some (mx a b) := by
  unfold spec_l1Most.f mx
  by_cases h : a > b
  · rw [if_pos h, if_neg (by omega)]
  · rw [if_neg h]
    by_cases h2 : a < b
    · rw [if_pos h2]
    · rw [if_neg h2, show a = b from by omega]
theorem l1All_l0 (lo hi : Int) (l : List Int) (hl : l.length ≤ 9000000000000000000) : ∀ (d k i : Nat), i + d = l.length → d < k → spec_l1All.l0 k lo hi l (l.length : Int) (i : Int) = some ((l.drop i).all (inr lo hi)) := by
  intro d
  induction d with
  | zero =>
    intro k i hi' hk
    obtain ⟨k, rfl⟩ : ∃ m, k = m + 1 := ⟨k - 1, by omega⟩
    simp only [spec_l1All.l0]
    rw [if_neg (by omega), List.drop_of_length_le (by omega)]; rfl
  | succ d ih =>
    intro k i hi' hk
    obtain ⟨k, rfl⟩ : ∃ m, k = m + 1 := ⟨k - 1, by omega⟩
    have hlt : i < l.length := by omega
    simp only [spec_l1All.l0]
    rw [if_pos (by omega), if_pos (by omega), if_pos (by omega), l1In_eq, List.drop_eq_getElem_cons hlt, List.all_cons, rd_nat l i hlt, w64s (by omega), ih k (i + 1) (by omega) (by omega)]
    simp only [Option.bind_some]
    by_cases h : inr lo hi l[i] = true
    · rw [if_pos h, h, Bool.true_and]
    · rw [if_neg h, Bool.eq_false_iff.mpr h, Bool.false_and]
theorem l1All_eq (lo hi : Int) (l : List Int) (hl : l.length ≤ 9000000000000000000) (k : Nat) (hk : l.length < k) : spec_l1All.f k l lo hi = some (l.all (inr lo hi)) := by
  unfold spec_l1All.f
  exact l1All_l0 lo hi l hl l.length k 0 (by omega) hk
theorem isCycle_l0 (l : List Int) (hl : l.length ≤ 9000000000000000000) : ∀ (d k i : Nat), i + d = l.length → d < k → impl_IsCycle.l0 k l (l.length : Int) (i : Int) = some ((l.drop i).all (inr 1 100)) := by
  intro d
  induction d with
  | zero =>
    intro k i hi' hk
    obtain ⟨k, rfl⟩ : ∃ m, k = m + 1 := ⟨k - 1, by omega⟩
    simp only [impl_IsCycle.l0]
    rw [if_neg (by omega), List.drop_of_length_le (by omega)]; rfl
  | succ d ih =>
    intro k i hi' hk
    obtain ⟨k, rfl⟩ : ∃ m, k = m + 1 := ⟨k - 1, by omega⟩
    have hlt : i < l.length := by omega
    simp only [impl_IsCycle.l0]
    rw [if_pos (by omega), if_pos (by omega), if_pos (by omega), List.drop_eq_getElem_cons hlt, List.all_cons, rd_nat l i hlt, w64s (by omega), ih k (i + 1) (by omega) (by omega)]
    by_cases h : inr 1 100 l[i] = true
    · have h2 := (inr_iff _ _ _).1 h
      rw [if_neg (by omega), if_neg (by omega), h, Bool.true_and]
    · have h2 := (inr_false _ _ _).1 (Bool.eq_false_iff.mpr h)
      rw [Bool.eq_false_iff.mpr h, Bool.false_and]
      by_cases h3 : l[i] < 1
      · rw [if_pos h3]
      · rw [if_neg h3, if_pos (by omega)]
/-- What a valid cycle is. -/
def good (a b c d : Int) : Bool := [a, b, c, d].all (inr 1 100)
theorem good_iff (a b c d : Int) : good a b c d = true ↔ (1 ≤ a ∧ a ≤ 100) ∧ (1 ≤ b ∧ b ≤ 100) ∧ (1 ≤ c ∧ c ≤ 100) ∧ (1 ≤ d ∧ d ≤ 100) := by
  simp [good, inr]
theorem implIsCycle_eq (k : Nat) (hk : 10 ≤ k) (a b c d : Int) : impl_IsCycle.f k a b c d = some (good a b c d) := by
  unfold impl_IsCycle.f good
  simp only [Option.bind_some]
  exact isCycle_l0 [a, b, c, d] (by simp) 4 k 0 (by simp) (by omega)
theorem cyGood_eq (k : Nat) (hk : 10 ≤ k) (a b c d : Int) : spec_cyGood.f k a b c d = some (good a b c d) := by
  unfold spec_cyGood.f good
  rw [l1All_eq 1 100 [a, b, c, d] (by simp) k (by simp; omega)]
  rfl
theorem toCycle_eq (a b c d : Int) : laws_toCycle.f a b c d = some (a, b, c, d) := rfl
def asked (a b c d m n : Int) : Bool := good a b c d && (inr 1 12 m && inr 0 200 n)
theorem asked_iff (a b c d m n : Int) : asked a b c d m n = true ↔ good a b c d = true ∧ (1 ≤ m ∧ m ≤ 12) ∧ (0 ≤ n ∧ n ≤ 200) := by
  simp [asked, inr]
theorem cyAsked_eq (k : Nat) (hk : 10 ≤ k) (a b c d m n : Int) : spec_cyAsked.f k a b c d m n = some (asked a b c d m n) := by
  unfold spec_cyAsked.f asked spec_cyTrucks.f
  rw [cyGood_eq k hk]
  simp only [Option.bind_some, l1In_eq]
  cases good a b c d <;> cases inr 1 12 m <;> simp
theorem areTrucks_eq (k : Nat) (hk : 10 ≤ k) (a b c d m n : Int) : impl_areTrucks.f k a b c d m n = some (asked a b c d m n) := by
  unfold impl_areTrucks.f asked inr
  rw [implIsCycle_eq k hk]
  simp only [Option.bind_some, ge_iff_le]
  cases good a b c d
  · simp
  · by_cases h1 : 1 ≤ m <;> by_cases h2 : m ≤ 12 <;> by_cases h3 : 0 ≤ n <;> simp [h1, h2, h3]
theorem cyTime_eq {a b c d : Int} (h : good a b c d = true) : spec_cyTime.f a b c d = some (a + b + c + d) := by
  have h := (good_iff _ _ _ _).1 h
  unfold spec_cyTime.f
  rw [w64 (x := a + b) (by omega) (by omega), w64 (x := a + b + c) (by omega) (by omega), w64 (x := a + b + c + d) (by omega) (by omega)]
theorem implTime_eq {a b c d : Int} (h : good a b c d = true) : impl_cycleTime.f a b c d = some (a + b + c + d) := by
  have h := (good_iff _ _ _ _).1 h
  unfold impl_cycleTime.f
  rw [w64 (x := a + b) (by omega) (by omega), w64 (x := a + b + c) (by omega) (by omega), w64 (x := a + b + c + d) (by omega) (by omega)]
theorem cySlow_eq (a b c d : Int) : spec_cySlow.f a b c d = some (mx a c) := by
  unfold spec_cySlow.f
  rw [l1Most_eq]; rfl
/-- A fraction in lowest terms, by its greatest common divisor. -/
def partOf (a b : Int) : Int × Int := (a / ((Nat.gcd a.toNat b.toNat : Nat) : Int), b / ((Nat.gcd a.toNat b.toNat : Nat) : Int))
theorem part_l0 (a b : Int) (ha : 0 ≤ a) (hb : 0 ≤ b) (ha2 : a ≤ 1000000) (hb2 : b ≤ 1000000) : ∀ (n k : Nat) (x y : Int), 0 ≤ x → 0 ≤ y → y.toNat < n → n ≤ k → 0 < x + y → Nat.gcd x.toNat y.toNat = Nat.gcd a.toNat b.toNat → spec_moPart.l0 k a b x y = some (partOf a b) ∧ impl_lowest.l0 k a b x y = some (partOf a b) := by
  intro n
  induction n with
  | zero => intro k x y _ _ h; omega
  | succ n ih =>
    intro k x y hx hy hn hk hp hg
    obtain ⟨k, rfl⟩ : ∃ m, k = m + 1 := ⟨k - 1, by omega⟩
    simp only [spec_moPart.l0, impl_lowest.l0]
    by_cases h : y = 0
    · subst h
      rw [if_neg (show ¬ (0 : Int) > 0 by omega), if_pos rfl, if_neg (show ¬ x = 0 by omega)]
      have e : ((Nat.gcd a.toNat b.toNat : Nat) : Int) = x := by rw [← hg]; simp; omega
      have q1 := Int.ediv_le_self (a := a) x ha
      have q2 := Int.ediv_le_self (a := b) x hb
      have q3 : 0 ≤ a / x := Int.ediv_nonneg ha hx
      have q4 : 0 ≤ b / x := Int.ediv_nonneg hb hx
      unfold partOf
      rw [e, Int.tdiv_eq_ediv_of_nonneg ha, Int.tdiv_eq_ediv_of_nonneg hb, w64 (by omega) (by omega), w64 (by omega) (by omega)]
      exact ⟨rfl, rfl⟩
    · rw [if_pos (by omega), if_neg h, if_neg h]
      have e : Int.tmod x y = ((x.toNat % y.toNat : Nat) : Int) := by
        rw [Int.tmod_eq_emod_of_nonneg hx, Int.natCast_emod, Int.toNat_of_nonneg hx, Int.toNat_of_nonneg hy]
      have hlt : x.toNat % y.toNat < y.toNat := Nat.mod_lt _ (by omega)
      rw [e]
      refine ih k y ((x.toNat % y.toNat : Nat) : Int) hy (by omega) (by simp only [Int.toNat_natCast]; omega) (by omega) (by omega) ?_
      simp only [Int.toNat_natCast]
      rw [← hg, Nat.gcd_comm x.toNat y.toNat, Nat.gcd_rec y.toNat x.toNat, Nat.gcd_comm]
theorem moPart_eq (k : Nat) (a b : Int) (ha : 0 ≤ a) (hb : 1 ≤ b) (ha2 : a ≤ 1000000) (hb2 : b ≤ 1000000) (hk : 1000002 ≤ k) : spec_moPart.f k a b = some (partOf a b) := by
  unfold spec_moPart.f
  exact (part_l0 a b ha (by omega) ha2 hb2 1000001 k a b ha (by omega) (by omega) (by omega) (by omega) rfl).1
theorem lowest_eq (k : Nat) (a b : Int) (ha : 0 ≤ a) (hb : 1 ≤ b) (ha2 : a ≤ 1000000) (hb2 : b ≤ 1000000) (hk : 1000002 ≤ k) : impl_lowest.f k a b = some (partOf a b) := by
  unfold impl_lowest.f impl_abs.f
  simp only [Option.bind_some]
  rw [w64 (by omega) (by omega), mx_of_ge (by omega)]
  exact (part_l0 a b ha (by omega) ha2 hb2 1000001 k a b ha (by omega) (by omega) (by omega) (by omega) rfl).2
theorem slow_times2 {a b c d m n : Int} (h : asked a b c d m n = true) : 1 ≤ mx a c ∧ mx a c ≤ 100 ∧ 1 ≤ m * mx a c ∧ m * mx a c ≤ 1200 ∧ wrap64 (m * mx a c) = m * mx a c := by
  obtain ⟨h1, h2, _⟩ := (asked_iff _ _ _ _ _ _).1 h
  have h1 := (good_iff _ _ _ _).1 h1
  have hm := mx_spec a c
  have h3 : 1 ≤ mx a c := by omega
  have h4 : mx a c ≤ 100 := by omega
  have h5 : 1 * 1 ≤ m * mx a c := Int.mul_le_mul (by omega) h3 (by omega) (by omega)
  have h6 : m * mx a c ≤ 12 * 100 := Int.mul_le_mul (by omega) h4 (by omega) (by omega)
  exact ⟨h3, h4, by omega, by omega, w64 (by omega) (by omega)⟩
theorem specMatchFactor_eq (k : Nat) (hk : 1000002 ≤ k) (a b c d m : Int) : spec_MatchFactor.f k a b c d m = some (if asked a b c d m 0 = true then ((partOf (m * mx a c) (a + b + c + d)).1, (partOf (m * mx a c) (a + b + c + d)).2, true) else (0, 0, false)) := by
  unfold spec_MatchFactor.f
  rw [cyAsked_eq k (by omega)]
  simp only [Option.bind_some]
  by_cases h : asked a b c d m 0 = true
  · have hg := ((asked_iff _ _ _ _ _ _).1 h).1
    have hs := slow_times2 h
    have hb := (good_iff _ _ _ _).1 hg
    rw [if_pos h, if_pos h, cyTime_eq hg, cySlow_eq]
    simp only [Option.bind_some]
    rw [hs.2.2.2.2, moPart_eq k _ _ (by omega) (by omega) (by omega) (by omega) hk]
    rfl
  · rw [if_neg h, if_neg h]
theorem implMatchFactor_eq (k : Nat) (hk : 1000002 ≤ k) (a b c d m : Int) : impl_MatchFactor.f k a b c d m = some (if asked a b c d m 0 = true then ((partOf (m * mx a c) (a + b + c + d)).1, (partOf (m * mx a c) (a + b + c + d)).2, true) else (0, 0, false)) := by
  unfold impl_MatchFactor.f
  rw [areTrucks_eq k (by omega)]
  simp only [Option.bind_some]
  by_cases h : asked a b c d m 0 = true
  · have hg := ((asked_iff _ _ _ _ _ _).1 h).1
    have hs := slow_times2 h
    have hb := (good_iff _ _ _ _).1 hg
    rw [if_pos h, if_pos h, implTime_eq hg]
    simp only [Option.bind_some]
    rw [hs.2.2.2.2, lowest_eq k _ _ (by omega) (by omega) (by omega) (by omega) hk]
    rfl
  · rw [if_neg h, if_neg h]
theorem FnExactMatchFactor (a b c d m : Int) (_ : (Lit.int .i64 a).wf = true) (_ : (Lit.int .i64 b).wf = true) (_ : (Lit.int .i64 c).wf = true) (_ : (Lit.int .i64 d).wf = true) (_ : (Lit.int .i64 m).wf = true) : ∃ k, laws_FnExactMatchFactor.f k a b c d m = some true := by
  refine ⟨1000002, ?_⟩
  unfold laws_FnExactMatchFactor.f
  simp only [toCycle_eq, Option.bind_some, specMatchFactor_eq 1000002 (by omega), implMatchFactor_eq 1000002 (by omega), bne_self_eq_false, Bool.false_eq_true, if_false, if_true]
end Go.Proofs.Ytociipogjmidiaa.Pure
