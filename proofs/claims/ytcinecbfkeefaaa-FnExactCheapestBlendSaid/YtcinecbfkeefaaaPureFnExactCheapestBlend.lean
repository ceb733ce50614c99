/- THE PURE SIDE OF FnExactCheapestBlend: the printed functions of the reference and of the program give the same results. Plain Lean: no memory and no Go. -/
import Derived.Test.YtcinecbfkeefaaaPFnExactCheapestBlendx7
import Derived.OpenShut
namespace Go.Proofs.Ytcinecbfkeefaaa.Pure
open Go.RowKit Go.Proofs.Ytcinecbfkeefaaa.PFnExactCheapestBlend Go.Proofs.YtcinecbfkeefaaaW.PrintWords Go.Proofs.YtcinecbfkeefaaaW.PrintLast Go.Proofs.YtcinecbfkeefaaaW.PrintMore
set_option linter.unusedVariables false
set_option linter.unusedSimpArgs false

theorem w64 {x : Int} (h1 : -9223372036854775808 ≤ x) (h2 : x ≤ 9223372036854775807) : wrap64 x = x := by unfold wrap64; omega
theorem w64s {i : Nat} (h : i ≤ 9000000000000000000) : wrap64 ((i : Int) + 1) = ((i + 1 : Nat) : Int) := by rw [w64 (by omega) (by omega)]; omega
theorem rd_nat (l : List Int) (i : Nat) (h : i < l.length) : rd l (i : Int) = l[i] := by simp [rd, List.getD_eq_getElem?_getD, h]
theorem wf64 {x : Int} (h : (Lit.int .i64 x).wf = true) : -9223372036854775808 ≤ x ∧ x ≤ 9223372036854775807 := by
  have := bounds_i64 h
  omega
def inr (lo hi x : Int) : Bool := decide (lo ≤ x) && decide (x ≤ hi)
theorem inr_iff (lo hi x : Int) : inr lo hi x = true ↔ lo ≤ x ∧ x ≤ hi := by simp [inr]
theorem inr_false (lo hi x : Int) : inr lo hi x = false ↔ ¬ (lo ≤ x ∧ x ≤ hi) := by rw [← inr_iff, Bool.not_eq_true]
theorem mx_of_lt {a b : Int} (h : a < b) : mx a b = b := if_pos h
theorem mx_of_ge {a b : Int} (h : b ≤ a) : mx a b = a := if_neg (by omega)
theorem mx_spec (a b : Int) : a ≤ mx a b ∧ b ≤ mx a b ∧ (mx a b = a ∨ mx a b = b) := by unfold mx; split <;> omega
theorem l1In_eq (a b c : Int) : spec_l1In.f a b c = some (inr b c a) := by
  unfold spec_l1In.f inr
  by_cases h : a ≥ b
  · rw [if_pos h]; simp [show b ≤ a from h]
  · rw [if_neg h]; simp [show ¬ b ≤ a from h]
theorem l1Least_eq (a b : Int) : spec_l1Least.f a b = some (if a < b then a else b) := by
  unfold spec_l1Least.f
  split <;> rfl
theorem l1All_l0 (lo hi : Int) (l : List Int) (hl : l.length ≤ 9000000000000000000) : ∀ (d k i : Nat), i + d = l.length → d < k → spec_l1All.l0 k lo hi l (l.length : Int) (i : Int) = some ((l.drop i).all (inr lo hi)) := by
  intro d
  induction d with
  | zero =>
    intro k i hi' hk
    obtain ⟨k, rfl⟩ : ∃ m, k = m + 1 := ⟨k - 1, by omega⟩
    simp only [spec_l1All.l0]
    rw [if_neg (by omega), List.drop_of_length_le (by omega)]; rfl
  | succ d ih =>
    intro k i hi' hk
    obtain ⟨k, rfl⟩ : ∃ m, k = m + 1 := ⟨k - 1, by omega⟩
    have hlt : i < l.length := by omega
    simp only [spec_l1All.l0]
    rw [if_pos (by omega), if_pos (by omega), if_pos (by omega), l1In_eq, List.drop_eq_getElem_cons hlt, List.all_cons, rd_nat l i hlt, w64s (by omega), ih k (i + 1) (by omega) (by omega)]
    simp only [Option.bind_some]
    by_cases h : inr lo hi l[i] = true
    · rw [if_pos h, h, Bool.true_and]
    · rw [if_neg h, Bool.eq_false_iff.mpr h, Bool.false_and]
theorem l1All_eq (lo hi : Int) (l : List Int) (hl : l.length ≤ 9000000000000000000) (k : Nat) (hk : l.length < k) : spec_l1All.f k l lo hi = some (l.all (inr lo hi)) := by
  unfold spec_l1All.f
  exact l1All_l0 lo hi l hl l.length k 0 (by omega) hk
theorem eqIntS_l0 (l : List Int) (hl : l.length ≤ 9000000000000000000) : ∀ (d k i : Nat), i + d = l.length → d < k → laws_eqIntS.l0 k l l (i : Int) = some true := by
  intro d
  induction d with
  | zero =>
    intro k i hi' hk
    obtain ⟨k, rfl⟩ : ∃ m, k = m + 1 := ⟨k - 1, by omega⟩
    simp only [laws_eqIntS.l0]
    rw [if_neg (by omega)]
  | succ d ih =>
    intro k i hi' hk
    obtain ⟨k, rfl⟩ : ∃ m, k = m + 1 := ⟨k - 1, by omega⟩
    simp only [laws_eqIntS.l0]
    rw [if_pos (by omega), if_pos (by omega), if_pos (by omega), if_pos trivial, w64s (by omega)]
    exact ih k (i + 1) (by omega) (by omega)
theorem eqIntS_self (l : List Int) (hl : l.length ≤ 9000000000000000000) (k : Nat) (hk : l.length < k) : laws_eqIntS.f k l l = some true := by
  unfold laws_eqIntS.f
  rw [if_pos rfl]
  exact eqIntS_l0 l hl l.length k 0 (by omega) hk
/-- What 'mark' writes: numbers in their order. -/
def ramp (a : Int) (n : Nat) : List Int := (List.range n).map fun (i : Nat) => a + (i : Int)
theorem ramp_length (a : Int) (n : Nat) : (ramp a n).length = n := by simp [ramp]
theorem ramp_succ (a : Int) (n : Nat) : ramp a (n + 1) = ramp a n ++ [a + (n : Int)] := by simp [ramp, List.range_succ]
theorem ramp_at (a : Int) (n i : Nat) (h : i < n) : rd (ramp a n) (i : Int) = a + (i : Int) := by
  rw [rd_nat _ _ (by rw [ramp_length]; exact h)]
  simp [ramp]
theorem markIntS_l0 (a : Int) (ha : 0 ≤ a ∧ a ≤ 1000000000000000000) (l : List Int) (hl : l.length ≤ 1000000000000000000) : ∀ (d k i : Nat), i + d = l.length → d < k → laws_markIntS.l0 k (ramp a i ++ l.drop i) (a + (i : Int)) (i : Int) = some (a + (l.length : Int), ramp a l.length) := by
  intro d
  induction d with
  | zero =>
    intro k i hi' hk
    obtain ⟨k, rfl⟩ : ∃ m, k = m + 1 := ⟨k - 1, by omega⟩
    obtain rfl : i = l.length := by omega
    simp only [laws_markIntS.l0]
    rw [if_neg (by simp [ramp_length]), List.drop_of_length_le (Nat.le_refl _), List.append_nil]
  | succ d ih =>
    intro k i hi' hk
    obtain ⟨k, rfl⟩ : ∃ m, k = m + 1 := ⟨k - 1, by omega⟩
    have hlt : i < l.length := by omega
    simp only [laws_markIntS.l0]
    rw [if_pos (by simp [ramp_length]; omega), if_pos (by omega), Int.toNat_natCast, List.drop_eq_getElem_cons hlt]
    rw [List.set_append_right _ _ (by rw [ramp_length]; exact Nat.le_refl _), ramp_length, Nat.sub_self, List.set_cons_zero]
    rw [w64s (by omega), w64 (by omega) (by omega)]
    have h := ih k (i + 1) (by omega) (by omega)
    rw [ramp_succ, List.append_assoc, List.singleton_append, show a + ((i + 1 : Nat) : Int) = a + (i : Int) + 1 from by omega] at h
    exact h
theorem markIntS_eq (a : Int) (ha : 0 ≤ a ∧ a ≤ 1000000000000000000) (l : List Int) (hl : l.length ≤ 1000000000000000000) (k : Nat) (hk : l.length < k) : laws_markIntS.f k l a = some (a + (l.length : Int), ramp a l.length) := by
  unfold laws_markIntS.f
  have h := markIntS_l0 a ha l hl l.length k 0 (by omega) hk
  simpa [ramp] using h
theorem heldIntS_l0 (a : Int) (ha : 0 ≤ a ∧ a ≤ 1000000000000000000) (n : Nat) (hl : n ≤ 1000000000000000000) : ∀ (d k i : Nat), i + d = n → d < k → laws_heldIntS.l0 k (ramp a n) (a + (i : Int)) (i : Int) = some (a + (n : Int)) := by
  intro d
  induction d with
  | zero =>
    intro k i hi' hk
    obtain ⟨k, rfl⟩ : ∃ m, k = m + 1 := ⟨k - 1, by omega⟩
    obtain rfl : i = n := by omega
    simp only [laws_heldIntS.l0]
    rw [if_neg (by rw [ramp_length]; omega)]
  | succ d ih =>
    intro k i hi' hk
    obtain ⟨k, rfl⟩ : ∃ m, k = m + 1 := ⟨k - 1, by omega⟩
    simp only [laws_heldIntS.l0]
    rw [if_pos (by rw [ramp_length]; omega), if_pos (by omega), ramp_at a n i (by omega), if_pos rfl, w64s (by omega), w64 (by omega) (by omega)]
    have h := ih k (i + 1) (by omega) (by omega)
    rw [show a + ((i + 1 : Nat) : Int) = a + (i : Int) + 1 from by omega] at h
    exact h
theorem heldIntS_eq (a : Int) (ha : 0 ≤ a ∧ a ≤ 1000000000000000000) (n : Nat) (hl : n ≤ 1000000000000000000) (k : Nat) (hk : n < k) : laws_heldIntS.f k (ramp a n) a = some (a + (n : Int)) := by
  unfold laws_heldIntS.f
  have h := heldIntS_l0 a ha n hl n k 0 (by omega) hk
  simpa using h

theorem ev_loop {β : Type} {F : Nat → Nat → Option β} {n : Nat} {res : Nat → β} (last : ∃ K, ∀ k, K ≤ k → F k n = some (res n)) (step : ∀ i, i < n → ∀ K, (∀ k, K ≤ k → F k (i + 1) = some (res (i + 1))) → ∃ K, ∀ k, K ≤ k → F k i = some (res i)) : ∀ i, i ≤ n → ∃ K, ∀ k, K ≤ k → F k i = some (res i) := by
  have key : ∀ d i, i + d = n → ∃ K, ∀ k, K ≤ k → F k i = some (res i) := by
    intro d
    induction d with
    | zero => intro i h; obtain rfl : i = n := by omega
              exact last
    | succ d ih =>
      intro i h
      obtain ⟨K, hK⟩ := ih (i + 1) (by omega)
      exact step i (by omega) K hK
  exact fun i h => key (n - i) i (by omega)
/-- One round more. -/
theorem ev_suc {β : Type} {g : Nat → Option β} {r : β} (K : Nat) (h : ∀ k, K ≤ k → g (k + 1) = some r) : ∃ K, ∀ k, K ≤ k → g k = some r :=
  ⟨K + 1, fun k hk => by obtain ⟨k, rfl⟩ : ∃ m, k = m + 1 := ⟨k - 1, by omega⟩; exact h k (by omega)⟩
theorem fill_step {α : Type} (l : List α) (z : α) (i : Nat) (h : i < l.length) : (l.take i ++ List.replicate (l.length - i) z).set i l[i] = l.take (i + 1) ++ List.replicate (l.length - (i + 1)) z := by
  have e : l.length - i = (l.length - (i + 1)) + 1 := by omega
  rw [List.set_append_right _ _ (by rw [List.length_take]; omega), List.length_take, Nat.min_eq_left (by omega), Nat.sub_self, e, List.replicate_succ, List.set_cons_zero, List.take_succ_eq_append_getElem h, List.append_assoc, List.singleton_append]
theorem fill_length {α : Type} (l : List α) (z : α) (i : Nat) (h : i ≤ l.length) : (l.take i ++ List.replicate (l.length - i) z).length = l.length := by
  rw [List.length_append, List.length_take, List.length_replicate]; omega
theorem fill_last {α : Type} (l : List α) (z : α) : l.take l.length ++ List.replicate (l.length - l.length) z = l := by simp
theorem eqIntS_ev (l : List Int) (hl : l.length ≤ 1048576) : ∃ K, ∀ k, K ≤ k → laws_eqIntS.f k l l = some true :=
  ⟨l.length + 1, fun k hk => eqIntS_self l (by omega) k (by omega)⟩
theorem markIntS_ev (l : List Int) (hl : l.length ≤ 1048576) (a : Int) (ha : 0 ≤ a ∧ a ≤ 1000000000000000000) : ∃ K, ∀ k, K ≤ k → laws_markIntS.f k l a = some (a + (l.length : Int), ramp a l.length) :=
  ⟨l.length + 1, fun k hk => markIntS_eq a ha l (by omega) k (by omega)⟩
theorem heldIntS_ev (n : Nat) (hl : n ≤ 1048576) (a : Int) (ha : 0 ≤ a ∧ a ≤ 1000000000000000000) : ∃ K, ∀ k, K ≤ k → laws_heldIntS.f k (ramp a n) a = some (a + (n : Int)) :=
  ⟨n + 1, fun k hk => heldIntS_eq a ha n (by omega) k (by omega)⟩
theorem l1All_ev (lo hi : Int) (l : List Int) (hl : l.length ≤ 1048576) : ∃ K, ∀ k, K ≤ k → spec_l1All.f k l lo hi = some (l.all (inr lo hi)) :=
  ⟨l.length + 1, fun k hk => l1All_eq lo hi l (by omega) k (by omega)⟩

theorem rdB_nat (l : List S63) (i : Nat) (h : i < l.length) : rd_T63 l (i : Int) = l[i] := by simp [rd_T63, List.getD_eq_getElem?_getD, h]
def binOk (x : S63) : Bool := inr 0 12 x.f0 && (inr 0 1000 x.f1 && (inr 0 1000 x.f2 && inr 0 1000 x.f3))
theorem binOk_iff (x : S63) : binOk x = true ↔ (0 ≤ x.f0 ∧ x.f0 ≤ 12) ∧ (0 ≤ x.f1 ∧ x.f1 ≤ 1000) ∧ (0 ≤ x.f2 ∧ x.f2 ≤ 1000) ∧ (0 ≤ x.f3 ∧ x.f3 ≤ 1000) := by
  simp [binOk, inr]
def binsOk (l : List S63) : Bool := l.all binOk && inr 1 6 (l.length : Int)
theorem binsOk_iff (l : List S63) : binsOk l = true ↔ (∀ x ∈ l, binOk x = true) ∧ 1 ≤ l.length ∧ l.length ≤ 6 := by
  simp only [binsOk, Bool.and_eq_true, List.all_eq_true, inr_iff]
  constructor
  · rintro ⟨h1, h2, h3⟩; exact ⟨h1, by omega, by omega⟩
  · rintro ⟨h1, h2, h3⟩; exact ⟨h1, by omega, by omega⟩
theorem blBins_ev (l : List S63) (hl : l.length ≤ 1048576) : ∃ K, ∀ k, K ≤ k → spec_blBins.f k l = some (binsOk l) := by
  have h := ev_loop (F := fun k i => spec_blBins.l0 k l l (l.length : Int) (i : Int)) (n := l.length) (res := fun i => (l.drop i).all binOk && inr 1 6 (l.length : Int))
    (ev_suc 0 fun k _ => by
      simp only [spec_blBins.l0]
      rw [if_neg (by omega), l1In_eq, List.drop_of_length_le (Nat.le_refl _)]
      rfl)
    (fun i hi K hK => ev_suc (max K 10) fun k hk => by
      simp only [spec_blBins.l0]
      rw [if_pos (by omega), if_pos (by omega), if_pos (by omega), rdB_nat l i hi, l1In_eq, List.drop_eq_getElem_cons hi, List.all_cons, w64s (by omega)]
      simp only [Option.bind_some]
      by_cases h1 : inr 0 12 l[i].f0 = true
      · rw [if_pos h1, l1All_eq 0 1000 [l[i].f1, l[i].f2, l[i].f3] (by simp) k (by simp; omega)]
        simp only [Option.bind_some]
        have e : binOk l[i] = [l[i].f1, l[i].f2, l[i].f3].all (inr 0 1000) := by simp [binOk, h1]
        rw [e]
        by_cases h2 : [l[i].f1, l[i].f2, l[i].f3].all (inr 0 1000) = true
        · rw [if_pos h2, h2, Bool.true_and]
          exact hK k (by omega)
        · rw [if_neg h2, Bool.eq_false_iff.mpr h2, Bool.false_and, Bool.false_and]
      · rw [if_neg h1]
        have e : binOk l[i] = false := by simp [binOk, Bool.eq_false_iff.mpr h1]
        rw [e, Bool.false_and, Bool.false_and]) 0 (Nat.zero_le _)
  exact h
theorem areBins_ev (l : List S63) (hl : l.length ≤ 1048576) : ∃ K, ∀ k, K ≤ k → impl_AreBins.f k l = some (binsOk l) := by
  have h := ev_loop (F := fun k i => impl_AreBins.l0 k l (l.length : Int) (i : Int)) (n := l.length) (res := fun i => (l.drop i).all binOk)
    (ev_suc 0 fun k _ => by
      simp only [impl_AreBins.l0]
      rw [if_neg (by omega), List.drop_of_length_le (Nat.le_refl _)]
      rfl)
    (fun i hi K hK => ev_suc K fun k hk => by
      simp only [impl_AreBins.l0]
      rw [if_pos (by omega), if_pos (by omega), if_pos (by omega), rdB_nat l i hi, List.drop_eq_getElem_cons hi, List.all_cons, w64s (by omega), hK k hk]
      by_cases h : binOk l[i] = true
      · have h2 := (binOk_iff _).1 h
        rw [if_neg (by omega), if_neg (by omega), if_neg (by omega), if_neg (by omega), if_neg (by omega), if_neg (by omega), if_neg (by omega), if_neg (by omega), h, Bool.true_and]
      · have h2 := mt (binOk_iff _).2 h
        rw [Bool.eq_false_iff.mpr h, Bool.false_and]
        repeat (split; rfl)
        exact absurd (by omega) h2) 0 (Nat.zero_le _)
  obtain ⟨K, h⟩ := h
  refine ev_suc K fun k hk => ?_
  have hk2 := h k hk
  unfold impl_AreBins.f binsOk
  by_cases h1 : (l.length : Int) < 1
  · rw [if_pos h1, (inr_false _ _ _).2 (by omega), Bool.and_false]
    simp only [impl_AreBins.j0]
    rw [if_pos trivial]
  · rw [if_neg h1]
    simp only [impl_AreBins.j0]
    by_cases h2 : (l.length : Int) > 6
    · rw [if_pos (by simpa using h2), (inr_false _ _ _).2 (by omega), Bool.and_false]
    · rw [if_neg (by simpa using h2), (inr_iff _ _ _).2 (by omega), Bool.and_true]
      exact hk2
theorem szBinS_ev (l : List S75) (a : Int) (ha : 0 ≤ a ∧ a ≤ 1048576) (hl : l.length ≤ maxLen) : ∃ r, laws_szBinS.f l a = some r ∧ (0 ≤ r → (l.length : Int) ≤ a) := by
  simp only [maxLen] at hl
  unfold laws_szBinS.f
  rw [w64 (by omega) (by omega)]
  by_cases h : a - (l.length : Int) < 0
  · exact ⟨-1, by rw [if_pos h], fun h2 => by omega⟩
  · exact ⟨a - (l.length : Int), by rw [if_neg h], fun _ => by omega⟩
def binsOf (l : List S75) : List S63 := l.map fun x => ⟨x.f0, x.f1, x.f2, x.f3⟩
theorem binsOf_length (l : List S75) : (binsOf l).length = l.length := by simp [binsOf]
theorem toBinS_ev (l : List S75) (hl : l.length ≤ 1048576) : ∃ K, ∀ k, K ≤ k → laws_toBinS.f k l = some (binsOf l) := by
  have hbl := binsOf_length l
  have h := ev_loop (F := fun k i => laws_toBinS.l0 k l ((binsOf l).take i ++ List.replicate ((binsOf l).length - i) z63) (i : Int)) (n := l.length) (res := fun _ => binsOf l)
    (ev_suc 0 fun k _ => by simp only [laws_toBinS.l0]; rw [if_neg (by omega), ← hbl, fill_last])
    (fun i hi K hK => ev_suc K fun k hk => by
      have hi2 : i < (binsOf l).length := by rw [hbl]; exact hi
      have e : rd_T75 l (i : Int) = l[i] := by simp [rd_T75, List.getD_eq_getElem?_getD, hi]
      have e2 : (⟨l[i].f0, l[i].f1, l[i].f2, l[i].f3⟩ : S63) = (binsOf l)[i] := by simp [binsOf]
      simp only [laws_toBinS.l0]
      rw [if_pos (by omega), if_pos (by omega), e]
      simp only [laws_toBin.f, Option.bind_some]
      rw [if_pos (by rw [fill_length _ _ i (by omega)]; omega), Int.toNat_natCast, e2, fill_step _ _ i hi2, w64s (by omega)]
      exact hK k hk) 0 (Nat.zero_le _)
  obtain ⟨K, h⟩ := h
  refine ⟨K, fun k hk => ?_⟩
  unfold laws_toBinS.f
  rw [if_pos (by omega), if_pos (by omega), Int.toNat_natCast]
  have h2 := h k hk
  rw [hbl] at h2
  simpa using h2
theorem eqBinS_ev (l : List S63) (hl : l.length ≤ 1048576) : ∃ K, ∀ k, K ≤ k → laws_eqBinS.f k l l = some true := by
  have h := ev_loop (F := fun k i => laws_eqBinS.l0 k l l (i : Int)) (n := l.length) (res := fun _ => true)
    (ev_suc 0 fun k _ => by simp only [laws_eqBinS.l0]; rw [if_neg (by omega)])
    (fun i hi K hK => ev_suc K fun k hk => by
      simp only [laws_eqBinS.l0]
      rw [if_pos (by omega), if_pos (by omega), if_pos (by omega)]
      simp only [laws_eqBin.f, if_true, Option.bind_some]
      rw [w64s (by omega)]
      exact hK k hk) 0 (Nat.zero_le _)
  obtain ⟨K, h⟩ := h
  refine ⟨K, fun k hk => ?_⟩
  unfold laws_eqBinS.f
  rw [if_pos rfl]
  exact h k hk
def rampB (a : Int) (n : Nat) : List S63 := (List.range n).map fun (i : Nat) => ⟨a + 4 * (i : Int), a + 4 * (i : Int) + 1, a + 4 * (i : Int) + 1 + 1, a + 4 * (i : Int) + 1 + 1 + 1⟩
theorem rampB_length (a : Int) (n : Nat) : (rampB a n).length = n := by simp [rampB]
theorem rampB_succ (a : Int) (n : Nat) : rampB a (n + 1) = rampB a n ++ [⟨a + 4 * (n : Int), a + 4 * (n : Int) + 1, a + 4 * (n : Int) + 1 + 1, a + 4 * (n : Int) + 1 + 1 + 1⟩] := by simp [rampB, List.range_succ]
theorem rdB_mid (p r : List S63) (x : S63) : rd_T63 (p ++ x :: r) (p.length : Int) = x := by simp [rd_T63, List.getD_eq_getElem?_getD]
theorem set_mid {α : Type} (p r : List α) (x y : α) (n : Nat) (h : p.length = n) : (p ++ x :: r).set n y = p ++ y :: r := by subst h; simp
theorem markBinS_ev (l : List S63) (hl : l.length ≤ 1048576) (a : Int) (ha : 0 ≤ a ∧ a ≤ 1000000000000000000) : ∃ K, ∀ k, K ≤ k → laws_markBinS.f k l a = some (a + 4 * (l.length : Int), rampB a l.length) := by
  have h := ev_loop (F := fun k i => laws_markBinS.l0 k (rampB a i ++ l.drop i) (a + 4 * (i : Int)) (i : Int)) (n := l.length) (res := fun _ => (a + 4 * (l.length : Int), rampB a l.length))
    (ev_suc 0 fun k _ => by simp only [laws_markBinS.l0]; rw [if_neg (by simp [rampB_length]), List.drop_length, List.append_nil])
    (fun i hi K hK => ev_suc K fun k hk => by
      have hlen := rampB_length a i
      have e : ∀ x r, rd_T63 (rampB a i ++ x :: r) (i : Int) = x := fun x r => by
        have := rdB_mid (rampB a i) r x
        rwa [hlen] at this
      have hK2 := hK k hk
      rw [rampB_succ, List.append_assoc, List.singleton_append] at hK2
      simp only [laws_markBinS.l0]
      rw [if_pos (by simp [rampB_length]; omega), if_pos (by omega), List.drop_eq_getElem_cons hi]
      simp only [Option.bind_some, Int.toNat_natCast, set_mid _ _ _ _ i hlen, e]
      simp (disch := omega) only [w64]
      rw [show a + 4 * (i : Int) + 1 + 1 + 1 + 1 = a + 4 * ((i + 1 : Nat) : Int) from by omega, show (i : Int) + 1 = ((i + 1 : Nat) : Int) from by omega]
      exact hK2) 0 (Nat.zero_le _)
  simpa [laws_markBinS.f, rampB] using h
theorem flatMap_le {α β : Type} (g : α → List β) (B : Nat) : ∀ l : List α, (∀ x ∈ l, (g x).length ≤ B) → (l.flatMap g).length ≤ l.length * B := by
  intro l
  induction l with
  | nil => intro _; simp
  | cons x l ih =>
    intro h
    have h1 := h x (List.mem_cons_self)
    have h2 := ih (fun y hy => h y (List.mem_cons_of_mem _ hy))
    rw [List.flatMap_cons, List.length_append, List.length_cons, Nat.add_mul, Nat.one_mul]
    omega
def foldO {σ α : Type} (step : σ → α → Option σ) : σ → List α → Option σ
  | s, [] => some s
  | s, a :: l => (step s a).bind fun s' => foldO step s' l
theorem foldO_append {σ α : Type} (step : σ → α → Option σ) : ∀ (l l2 : List α) (s : σ), foldO step s (l ++ l2) = (foldO step s l).bind fun s' => foldO step s' l2 := by
  intro l
  induction l with
  | nil => intro l2 s; rfl
  | cons a l ih =>
    intro l2 s
    simp only [List.cons_append, foldO]
    cases step s a with
    | none => rfl
    | some s1 => exact ih l2 s1
theorem foldO_ev {σ α : Type} (step : Nat → σ → α → Option σ) (tt : σ → α → σ) (ok : σ → Prop) : ∀ (l : List α), (∀ a ∈ l, ∀ s, ok s → ok (tt s a) ∧ ∃ K, ∀ k, K ≤ k → step k s a = some (tt s a)) → ∀ s, ok s → ok (l.foldl tt s) ∧ ∃ K, ∀ k, K ≤ k → foldO (step k) s l = some (l.foldl tt s) := by
  intro l
  induction l with
  | nil => intro _ s hs; exact ⟨hs, 0, fun k _ => rfl⟩
  | cons a l ih =>
    intro h s hs
    obtain ⟨h1, K1, h2⟩ := h a (List.mem_cons_self) s hs
    obtain ⟨h3, K2, h4⟩ := ih (fun b hb => h b (List.mem_cons_of_mem _ hb)) (tt s a) h1
    refine ⟨h3, K1 + K2, fun k hk => ?_⟩
    simp only [foldO, List.foldl_cons]
    rw [h2 k (by omega)]
    exact h4 k (by omega)
/-- All parts of bins that come to a sum, in lexicographic order. -/
def partsAll : List S63 → Int → List (List Int)
  | [], left => if left = 0 then [[]] else []
  | b :: l, left => (List.range' 0 (mn left b.f0 + 1).toNat).flatMap fun (n : Nat) => (partsAll l (left - (n : Int))).map fun r => (n : Int) :: r
theorem rdLLp (l : List (List Int)) (i : Nat) (h : i < l.length) : rd_L3 l (i : Int) = l[i] := by simp [rd_L3, List.getD_eq_getElem?_getD, h]
theorem mn_le (a b : Int) : mn a b ≤ a := by unfold mn; split <;> omega
theorem partsAll_mem : ∀ (l : List S63) (left : Int), left ≤ 12 → ∀ m ∈ partsAll l left, m.length = l.length ∧ ∀ x ∈ m, 0 ≤ x ∧ x ≤ 12 := by
  intro l
  induction l with
  | nil =>
    intro left _ m hm
    simp only [partsAll] at hm
    by_cases h : left = 0
    · rw [if_pos h, List.mem_singleton] at hm
      subst hm
      exact ⟨rfl, fun x hx => by cases hx⟩
    · rw [if_neg h] at hm; cases hm
  | cons b l ih =>
    intro left hl m hm
    simp only [partsAll] at hm
    obtain ⟨n, hn, hm⟩ := List.mem_flatMap.1 hm
    obtain ⟨r, hr, rfl⟩ := List.mem_map.1 hm
    have hn2 := List.mem_range'_1.1 hn
    have := mn_le left b.f0
    obtain ⟨h1, h2⟩ := ih (left - (n : Int)) (by omega) r hr
    refine ⟨by rw [List.length_cons, List.length_cons, h1], fun x hx => ?_⟩
    rcases List.mem_cons.1 hx with rfl | hx
    · omega
    · exact h2 x hx
theorem partsAll_len : ∀ (l : List S63) (left : Int), left ≤ 12 → (partsAll l left).length ≤ 13 ^ l.length := by
  intro l
  induction l with
  | nil => intro left _; simp only [partsAll]; split <;> simp
  | cons b l ih =>
    intro left hl
    have := mn_le left b.f0
    have h := flatMap_le (fun (n : Nat) => (partsAll l (left - (n : Int))).map fun r => (n : Int) :: r) (13 ^ l.length) (List.range' 0 (mn left b.f0 + 1).toNat) (fun n hn => by
      rw [List.length_map]
      exact ih _ (by omega))
    rw [List.length_range'] at h
    simp only [partsAll]
    rw [List.length_cons, Nat.pow_succ, Nat.mul_comm (13 ^ l.length)]
    exact Nat.le_trans h (Nat.mul_le_mul_right _ (by omega))
theorem l1Least_mn (a b : Int) : spec_l1Least.f a b = some (mn a b) := by
  unfold spec_l1Least.f mn
  by_cases h : a < b
  · rw [if_pos h, if_neg (by omega)]
  · rw [if_neg h]
    by_cases h2 : b < a
    · rw [if_pos h2]
    · rw [if_neg h2]; congr 1; omega
theorem blAll_ev : ∀ (l : List S63), l.length ≤ 6 → ∀ (left : Int), 0 ≤ left → left ≤ 12 → ∃ K, ∀ k, K ≤ k → spec_blAll.f k l left = some (partsAll l left) := by
  intro l
  induction l with
  | nil =>
    intro _ left _ _
    refine ev_suc 0 fun k _ => ?_
    simp only [spec_blAll.f, partsAll, List.length_nil]
    rw [if_pos (by rfl)]
    by_cases h : left = 0
    · rw [if_pos h, if_pos h]
    · rw [if_neg h, if_neg h]
  | cons b l ih =>
    intro hl6 left hl0 hl12
    rw [List.length_cons] at hl6
    have hmn := mn_le left b.f0
    obtain ⟨T, hT⟩ : ∃ T, T = (mn left b.f0 + 1).toNat := ⟨_, rfl⟩
    have hT13 : T ≤ 13 := by omega
    have hp : 13 ^ l.length ≤ 371293 := Nat.le_trans (Nat.pow_le_pow_right (by omega) (show l.length ≤ 5 by omega)) (by decide)
    have hlen : ∀ i, i ≤ T → (((List.range' 0 T).take i).flatMap fun (n : Nat) => (partsAll l (left - (n : Int))).map fun r => (n : Int) :: r).length ≤ 13 * 371293 := by
      intro i hi
      have h := flatMap_le (fun (n : Nat) => (partsAll l (left - (n : Int))).map fun r => (n : Int) :: r) 371293 ((List.range' 0 T).take i) (fun n _ => by
        rw [List.length_map]
        exact Nat.le_trans (partsAll_len l _ (by omega)) hp)
      rw [List.length_take, List.length_range'] at h
      exact Nat.le_trans h (Nat.mul_le_mul_right _ (by omega))
    have hpos : (0 : Int) < ((b :: l).length : Int) := by rw [List.length_cons]; omega
    have hb0 : rd_T63 (b :: l) 0 = b := rfl
    have h := ev_loop (F := fun k i => spec_blAll.l0 k (b :: l) left (((List.range' 0 T).take i).flatMap fun (n : Nat) => (partsAll l (left - (n : Int))).map fun r => (n : Int) :: r) (i : Int)) (n := T) (res := fun _ => partsAll (b :: l) left)
      (ev_suc 0 fun k _ => by
        simp only [spec_blAll.l0]
        rw [if_pos hpos, l1Least_mn, hb0]
        simp only [Option.bind_some]
        rw [if_neg (by omega), List.take_of_length_le (by simp), partsAll, hT])
      (fun i hi K hK => by
        obtain ⟨K2, h2⟩ := ih (by omega) (left - (i : Int)) (by omega) (by omega)
        obtain ⟨R, hR⟩ : ∃ R, R = partsAll l (left - (i : Int)) := ⟨_, rfl⟩
        rw [← hR] at h2
        have hRl : R.length ≤ 371293 := by rw [hR]; exact Nat.le_trans (partsAll_len l _ (by omega)) hp
        have hRm : ∀ m ∈ R, m.length ≤ 6 := fun m hm => by
          have := (partsAll_mem l (left - (i : Int)) (by omega) m (by rw [← hR]; exact hm)).1
          omega
        have htk : (List.range' 0 T).take (i + 1) = (List.range' 0 T).take i ++ [i] := by rw [List.take_succ_eq_append_getElem (by simpa using hi)]; simp
        rw [htk, List.flatMap_append, List.flatMap_cons, List.flatMap_nil, List.append_nil, ← hR] at hK
        have hl1 := hlen i (by omega)
        generalize (((List.range' 0 T).take i).flatMap fun (n : Nat) => (partsAll l (left - (n : Int))).map fun r => (n : Int) :: r) = acc at hK hl1 ⊢
        have h3 := ev_loop (F := fun k j => spec_blAll.l1 k (b :: l) left (acc ++ (R.take j).map fun r => (i : Int) :: r) (i : Int) R (R.length : Int) (j : Int)) (n := R.length) (res := fun _ => partsAll (b :: l) left)
          (ev_suc K fun k hk => by
            simp only [spec_blAll.l1]
            rw [if_neg (by omega), List.take_of_length_le (Nat.le_refl _), w64s (by omega)]
            exact hK k hk)
          (fun j hj K3 hK3 => ev_suc K3 fun k hk => by
            have hm := hRm _ (List.getElem_mem hj)
            have hK4 := hK3 k hk
            rw [List.take_succ_eq_append_getElem hj, List.map_append, List.map_cons, List.map_nil, ← List.append_assoc] at hK4
            simp only [spec_blAll.l1]
            rw [if_pos (by omega), if_pos (by omega), if_pos (by omega), rdLLp R j hj]
            simp only [Option.bind_some]
            rw [if_pos (by simp only [List.length_cons, List.length_nil]; omega), if_pos (by rw [List.length_append, List.length_map, List.length_take]; omega), w64s (by omega)]
            exact hK4) 0 (Nat.zero_le _)
        obtain ⟨K3, h3⟩ := h3
        refine ev_suc (K2 + K3) fun k hk => ?_
        simp only [spec_blAll.l0]
        rw [if_pos hpos, l1Least_mn, hb0]
        simp only [Option.bind_some]
        rw [if_pos (by omega), if_pos (by rw [List.length_cons]; omega), w64 (by omega) (by omega)]
        have h2' := h2 k (by omega)
        rw [show (b :: l).drop 1 = l from rfl, h2']
        have h3' := h3 k (by omega)
        simpa using h3') 0 (Nat.zero_le _)
    obtain ⟨K, h⟩ := h
    refine ev_suc K fun k hk => ?_
    simp only [spec_blAll.f]
    rw [if_neg (by omega)]
    simpa using h k hk
/-- The filling calls the function for all parts, in their order. -/
theorem fill_parts {σ : Type} (L : List S63) (step : σ → List Int → Option σ) : ∀ (d : Nat) (l : List S63) (left : Int) (M : List Int) (p : List Int), l.length = d → L.drop p.length = l → p.length + d = L.length → M.length = L.length → M.take p.length = p →
    ∃ M' : List Int, M'.length = L.length ∧ M'.take p.length = p ∧ ∀ s, partF L step d left M s = (foldO step s ((partsAll l left).map fun r => p ++ r)).bind fun s' => some (M', s') := by
  intro d
  induction d with
  | zero =>
    intro l left M p hl hd hp hM ht
    obtain rfl : l = [] := List.length_eq_zero_iff.1 hl
    have hMp : M = p := by rw [← ht, List.take_of_length_le (by omega)]
    refine ⟨M, hM, ht, fun s => ?_⟩
    simp only [partF, partsAll]
    by_cases h : left = 0
    · rw [if_pos h, if_pos h]
      simp only [List.map_cons, List.map_nil, List.append_nil, foldO]
      rw [hMp]
      cases step s p <;> rfl
    · rw [if_neg h, if_neg h]
      rfl
  | succ d ih =>
    intro l left M p hl hd hp hM ht
    cases l with
    | nil => cases hl
    | cons b l =>
      rw [List.length_cons] at hl
      have hlt : p.length < L.length := by omega
      have hb : rd_T63 L ((p.length : Nat) : Int) = b := by
        rw [rdB_nat L p.length hlt]
        have h := List.drop_eq_getElem_cons hlt
        rw [hd] at h
        exact (List.cons.inj h).1.symm
      have hdl : L.drop (p.length + 1) = l := by
        have h := List.drop_eq_getElem_cons hlt
        rw [hd] at h
        exact (List.cons.inj h).2.symm
      have key : ∀ e n, ∀ M1 : List Int, M1.length = L.length → M1.take p.length = p → ∃ M' : List Int, M'.length = L.length ∧ M'.take p.length = p ∧ ∀ s, partK (partF L step d) p.length left e n M1 s = (foldO step s (((List.range' n e).flatMap fun (j : Nat) => (partsAll l (left - (j : Int))).map fun r => (j : Int) :: r).map fun r => p ++ r)).bind fun s' => some (M', s') := by
        intro e
        induction e with
        | zero => intro n M1 h1 h2; exact ⟨M1, h1, h2, fun s => rfl⟩
        | succ e ihe =>
          intro n M1 h1 h2
          have hset : (M1.set p.length (n : Int)).take (p ++ [(n : Int)]).length = p ++ [(n : Int)] := by
            rw [List.length_append, List.length_singleton, List.take_succ_eq_append_getElem (by rw [List.length_set]; omega), List.getElem_set_self, List.take_set_of_le (Nat.le_refl _), h2]
          obtain ⟨M2, m1, m2, m3⟩ := ih l (left - (n : Int)) (M1.set p.length (n : Int)) (p ++ [(n : Int)]) (by omega) (by rw [List.length_append, List.length_singleton]; exact hdl) (by rw [List.length_append, List.length_singleton]; omega) (by rw [List.length_set]; exact h1) hset
          have m2' : M2.take p.length = p := by
            have h5 := congrArg (List.take p.length) m2
            rw [List.take_take, List.length_append, List.length_singleton, Nat.min_eq_left (by omega)] at h5
            rw [h5]
            simp
          obtain ⟨M3, n1, n2, n3⟩ := ihe (n + 1) M2 m1 m2'
          refine ⟨M3, n1, n2, fun s => ?_⟩
          simp only [partK]
          rw [m3 s, List.range'_succ, List.flatMap_cons, List.map_append, foldO_append, List.map_map]
          have e1 : ((fun r => p ++ r) ∘ fun r => (n : Int) :: r) = fun r => (p ++ [(n : Int)]) ++ r := by funext r; simp
          rw [e1]
          cases foldO step s ((partsAll l (left - (n : Int))).map fun r => p ++ [(n : Int)] ++ r) with
          | none => rfl
          | some s1 =>
            simp only [Option.bind_some]
            exact n3 s1
      obtain ⟨M', h1, h2, h3⟩ := key (mn left b.f0 + 1).toNat 0 M hM ht
      refine ⟨M'.set p.length 0, by rw [List.length_set]; exact h1, by rw [List.take_set_of_le (Nat.le_refl _)]; exact h2, fun s => ?_⟩
      simp only [partF, partsAll]
      rw [show L.length - (d + 1) = p.length from by omega, hb, h3 s]
      cases foldO step s (((List.range' 0 (mn left b.f0 + 1).toNat).flatMap fun (j : Nat) => (partsAll l (left - (j : Int))).map fun r => (j : Int) :: r).map fun r => p ++ r) <;> rfl
theorem fill_start {σ : Type} (L : List S63) (step : σ → List Int → Option σ) (left : Int) (s : σ) : ∃ M' : List Int, partF L step L.length left (List.replicate L.length 0) s = (foldO step s (partsAll L left)).bind fun s' => some (M', s') := by
  obtain ⟨M', _, _, h⟩ := fill_parts L step L.length L left (List.replicate L.length 0) [] rfl rfl (by simp) (by simp) (by simp)
  refine ⟨M', ?_⟩
  have h2 := h s
  simpa using h2
def sumL (s : Int × Int × Int × Int) : List Int := [s.1, s.2.1, s.2.2.1, s.2.2.2]
theorem blSums_ev (l : List S63) (p : List Int) (hl : l.length ≤ 1048576) (hp : p.length = l.length) (hx : ∀ x ∈ p, 0 ≤ x ∧ x ≤ 12) : ∃ K, ∀ k, K ≤ k → spec_blSums.f k l p = some (sumL (sumsTo l p p.length)) := by
  have h := ev_loop (F := fun k i => spec_blSums.l0 k p (sumL (sumsTo l p i)) l (l.length : Int) (i : Int)) (n := l.length) (res := fun _ => sumL (sumsTo l p p.length))
    (ev_suc 0 fun k _ => by simp only [spec_blSums.l0]; rw [if_neg (by omega), hp])
    (fun i hi K hK => by
      refine ⟨K + 10, fun k hk => ?_⟩
      obtain ⟨k, rfl⟩ : ∃ m, k = m + 6 := ⟨k - 6, by omega⟩
      have hr : 0 ≤ rd p (i : Int) ∧ rd p (i : Int) ≤ 12 := by
        have e : rd p (i : Int) = p[i]'(by omega) := by simp [rd, List.getD_eq_getElem?_getD, show i < p.length by omega]
        rw [e]
        exact hx _ (List.getElem_mem _)
      have hK2 := hK k (by omega)
      simp only [sumsTo, sumL] at hK2 ⊢
      generalize (sumsTo l p i).1 = s0 at hK2 ⊢
      generalize (sumsTo l p i).2.1 = s1 at hK2 ⊢
      generalize (sumsTo l p i).2.2.1 = s2 at hK2 ⊢
      generalize (sumsTo l p i).2.2.2 = s3 at hK2 ⊢
      simp only [spec_blSums.l0]
      rw [if_pos (by omega), if_pos (by omega), if_pos (by omega)]
      simp only [Option.bind_some]
      have c1 : (i : Int) < (p.length : Int) := by omega
      have c0 : (0 : Int) ≤ (i : Int) := by omega
      simp only [spec_blSums.l1, List.length_cons, List.length_nil, c0, c1, if_true]
      have t1 : wrap64 1 = 1 := w64 (by omega) (by omega)
      have t2 : wrap64 2 = 2 := w64 (by omega) (by omega)
      have t3 : wrap64 3 = 3 := w64 (by omega) (by omega)
      have t4 : wrap64 4 = 4 := w64 (by omega) (by omega)
      have ti : wrap64 ((i : Int) + 1) = (i : Int) + 1 := w64 (by omega) (by omega)
      have tr : wrap64 (rd p (i : Int)) = rd p (i : Int) := w64 (by omega) (by omega)
      simp [rd, t1, t2, t3, t4, ti] at hK2 tr ⊢
      rw [tr]
      exact hK2) 0 (Nat.zero_le _)
  obtain ⟨K, h⟩ := h
  refine ⟨K, fun k hk => ?_⟩
  unfold spec_blSums.f
  rw [if_pos (by decide)]
  exact h k hk
theorem blMeets_eq (u le mo im : Int) (s : Int × Int × Int × Int) : spec_blMeets.f u le mo im (sumL s) = some (meetsB s u le mo im) := by
  obtain ⟨s0, s1, s2, s3⟩ := s
  unfold spec_blMeets.f meetsB sumL
  simp only [List.length_cons, List.length_nil]
  rw [if_pos (by decide)]
  show (if rd [s0, s1, s2, s3] 0 = u then _ else _) = _
  rw [show rd [s0, s1, s2, s3] 0 = s0 from rfl, show rd [s0, s1, s2, s3] 1 = s1 from rfl, show rd [s0, s1, s2, s3] 2 = s2 from rfl]
  by_cases h1 : s0 = u
  · rw [if_pos h1, if_pos (by decide), l1In_eq, if_pos (by decide)]
    subst h1
    by_cases h2 : inr (wrap64 (le * s0)) (wrap64 (mo * s0)) s1 = true
    · simp only [Option.bind_some, if_pos h2]
      have h3 := (inr_iff _ _ _).1 h2
      simp [h3.1, h3.2]
    · simp only [Option.bind_some, if_neg h2]
      have h3 := (inr_false _ _ _).1 (Bool.eq_false_iff.mpr h2)
      simp only [beq_self_eq_true, Bool.true_and]
      by_cases h4 : wrap64 (le * s0) ≤ s1
      · rw [decide_eq_false (show ¬ s1 ≤ wrap64 (mo * s0) by omega)]; simp
      · rw [decide_eq_false h4]; simp
  · rw [if_neg h1, beq_eq_false_iff_ne.2 h1]
    simp
def wantOk (u le mo im : Int) : Bool := inr 1 12 u && (inr 0 1000 le && (inr le 1000 mo && inr 0 1000 im))
theorem wantOk_iff (u le mo im : Int) : wantOk u le mo im = true ↔ (1 ≤ u ∧ u ≤ 12) ∧ (0 ≤ le ∧ le ≤ 1000) ∧ (le ≤ mo ∧ mo ≤ 1000) ∧ (0 ≤ im ∧ im ≤ 1000) := by
  simp [wantOk, inr]
theorem blWanted_eq (u le mo im : Int) : spec_blWanted.f u le mo im = some (wantOk u le mo im) := by
  unfold spec_blWanted.f wantOk
  simp only [l1In_eq, Option.bind_some]
  by_cases h1 : inr 1 12 u = true <;> by_cases h2 : inr 0 1000 le = true <;> by_cases h3 : inr le 1000 mo = true <;> simp [h1, h2, h3]
theorem isWanted_eq (u le mo im : Int) : impl_IsWanted.f u le mo im = some (wantOk u le mo im) := by
  have h := wantOk_iff u le mo im
  unfold impl_IsWanted.f
  by_cases hw : wantOk u le mo im = true
  · have h2 := h.1 hw
    rw [hw, if_pos (by omega), if_pos (by omega), if_pos (by omega), if_pos (by omega), if_pos (by omega), if_pos (by omega), decide_eq_true (by omega)]
  · have h2 := mt h.2 hw
    rw [Bool.eq_false_iff.mpr hw]
    repeat (split; rotate_left; rfl)
    exact congrArg some (decide_eq_false (by omega))
theorem blAsked_ev (l : List S63) (hl : l.length ≤ 1048576) (u le mo im : Int) : ∃ K, ∀ k, K ≤ k → spec_blAsked.f k l u le mo im = some (binsOk l && wantOk u le mo im) := by
  obtain ⟨K, h⟩ := blBins_ev l hl
  refine ⟨K, fun k hk => ?_⟩
  unfold spec_blAsked.f
  rw [h k hk, blWanted_eq]
  simp only [Option.bind_some]
  by_cases hb : binsOk l = true
  · rw [if_pos hb, hb, Bool.true_and]
  · rw [if_neg hb, Bool.eq_false_iff.mpr hb, Bool.false_and]
def bestTT (l : List S63) (u le mo im : Int) (s : Option (List Int × Int)) (m : List Int) : Option (List Int × Int) :=
  if meetsB (sumsTo l m m.length) u le mo im = true then (match s with
    | none => some (m, scoreOf (sumsTo l m m.length))
    | some q => if q.2 < scoreOf (sumsTo l m m.length) then some (m, scoreOf (sumsTo l m m.length)) else s) else s
section
variable {l : List S63} {u le mo im : Int} {m : List Int}
theorem bestTT_no {s : Option (List Int × Int)} (hm : ¬ meetsB (sumsTo l m m.length) u le mo im = true) : bestTT l u le mo im s m = s := by unfold bestTT; rw [if_neg hm]
theorem bestTT_none (hm : meetsB (sumsTo l m m.length) u le mo im = true) : bestTT l u le mo im none m = some (m, scoreOf (sumsTo l m m.length)) := by unfold bestTT; rw [if_pos hm]
theorem bestTT_lt {q : List Int × Int} (hm : meetsB (sumsTo l m m.length) u le mo im = true) (h : q.2 < scoreOf (sumsTo l m m.length)) : bestTT l u le mo im (some q) m = some (m, scoreOf (sumsTo l m m.length)) := by unfold bestTT; rw [if_pos hm]; simp only; rw [if_pos h]
theorem bestTT_ge {q : List Int × Int} (hm : meetsB (sumsTo l m m.length) u le mo im = true) (h : ¬ q.2 < scoreOf (sumsTo l m m.length)) : bestTT l u le mo im (some q) m = some q := by unfold bestTT; rw [if_pos hm]; simp only; rw [if_neg h]
end
theorem bestStep_eq (l : List S63) (u le mo im : Int) (s : Option (List Int × Int)) (m : List Int) : bestStep l u le mo im s m = some (bestTT l u le mo im s m) := rfl
def toSp (s : Option (List Int × Int)) : List Int × Int := match s with | none => ([], 0) | some q => (q.1, - q.2)
def spRes (s : Option (List Int × Int)) : List Int × Bool := match s with | none => ([], false) | some q => (q.1, true)
def okB (P : List (List Int)) (l : List S63) (s : Option (List Int × Int)) : Prop := ∀ q, s = some q → q.1 ∈ P ∧ q.2 = scoreOf (sumsTo l q.1 q.1.length)
theorem okB_step {P : List (List Int)} {l : List S63} {u le mo im : Int} {s : Option (List Int × Int)} (h : okB P l s) {m : List Int} (hm : m ∈ P) : okB P l (bestTT l u le mo im s m) := by
  have hn : okB P l (some (m, scoreOf (sumsTo l m m.length))) := by
    intro q hq
    simp only [Option.some.injEq] at hq
    subst hq
    exact ⟨hm, rfl⟩
  unfold bestTT
  split
  · cases s with
    | none => exact hn
    | some q =>
      simp only
      split
      · exact hn
      · exact h
  · exact h
theorem okB_fold {P : List (List Int)} {l : List S63} {u le mo im : Int} : ∀ (L : List (List Int)) (s : Option (List Int × Int)), (∀ m ∈ L, m ∈ P) → okB P l s → okB P l (L.foldl (bestTT l u le mo im) s) := by
  intro L
  induction L with
  | nil => intro s _ h; exact h
  | cons m L ih => intro s hL h; exact ih _ (fun x hx => hL x (List.mem_cons_of_mem _ hx)) (okB_step h (hL m List.mem_cons_self))
set_option maxHeartbeats 2000000 in
theorem blBest_ev (l : List S63) (hl1 : 1 ≤ l.length) (hl6 : l.length ≤ 6) (u le mo im : Int) (hu0 : 0 ≤ u) (hu12 : u ≤ 12) (x2 x3 : Int) (hx : 0 ≤ x2 ∧ x2 < 4) (hkey : ∀ m ∈ partsAll l u, scoreOf (sumsTo l m m.length) = - wrap64 (x3 * rd (sumL (sumsTo l m m.length)) x2)) :
    ∃ K, ∀ k, K ≤ k → spec_blBest.f k l u le mo im x2 x3 = some (spRes ((partsAll l u).foldl (bestTT l u le mo im) none)) := by
  obtain ⟨P, hP⟩ : ∃ P, P = partsAll l u := ⟨_, rfl⟩
  have hPl : P.length ≤ 4826809 := by rw [hP]; exact Nat.le_trans (Nat.le_trans (partsAll_len l u (by omega)) (Nat.pow_le_pow_right (by omega) hl6)) (by decide)
  obtain ⟨K4, h4⟩ := blAll_ev l hl6 u (by omega) (by omega)
  rw [← hP] at h4 hkey ⊢
  have hmem : ∀ m ∈ P, m.length = l.length ∧ ∀ x ∈ m, 0 ≤ x ∧ x ≤ 12 := fun m hm => partsAll_mem l u (by omega) m (by rw [← hP]; exact hm)
  have hokP : ∀ i, okB P l ((P.take i).foldl (bestTT l u le mo im) none) := fun i => okB_fold _ _ (fun m hm => List.mem_of_mem_take hm) (fun q hq => by cases hq)
  have hsp := ev_loop (F := fun k i => spec_blBest.l0 k l x2 x3 (toSp ((P.take i).foldl (bestTT l u le mo im) none)).1 (toSp ((P.take i).foldl (bestTT l u le mo im) none)).2 P (P.length : Int) (i : Int) u le mo im) (n := P.length) (res := fun _ => spRes (P.foldl (bestTT l u le mo im) none))
    (ev_suc 0 fun k _ => by
      simp only [spec_blBest.l0]
      rw [if_neg (by omega), List.take_of_length_le (Nat.le_refl _)]
      have hok := hokP P.length
      rw [List.take_of_length_le (Nat.le_refl _)] at hok
      cases hF : P.foldl (bestTT l u le mo im) none with
      | none => rfl
      | some q =>
        have := (hmem q.1 (hok q hF).1).1
        have hd : decide ((q.1.length : Int) > 0) = true := decide_eq_true (by omega)
        exact congrArg (fun b => some (q.1, b)) hd)
    (fun i hi K hK => by
      have hmP : P[i] ∈ P := List.getElem_mem hi
      obtain ⟨m1, m2⟩ := hmem P[i] hmP
      obtain ⟨K5, h5⟩ := blSums_ev l P[i] (by omega) m1 m2
      refine ev_suc (K + K5) fun k hk => ?_
      have hK2 := hK k (by omega)
      rw [List.take_succ_eq_append_getElem hi, List.foldl_append, List.foldl_cons, List.foldl_nil] at hK2
      have hok := hokP i
      generalize (P.take i).foldl (bestTT l u le mo im) none = s at hK2 hok ⊢
      have c0 : (0 : Int) ≤ (i : Int) := Int.natCast_nonneg i
      have c1 : (i : Int) < (P.length : Int) := Int.ofNat_lt.2 hi
      have hlen : x2 < ((sumL (sumsTo l P[i] P[i].length)).length : Int) := hx.2
      have h5' := h5 k (by omega)
      have e9 : wrap64 ((i : Int) + 1) = ((i + 1 : Nat) : Int) := w64s (by omega)
      have hk1 := hkey P[i] hmP
      simp only [spec_blBest.l0]
      rw [if_pos c1, if_pos c0, if_pos c1, rdLLp P i hi, h5']
      simp only [Option.bind_some]
      rw [blMeets_eq]
      simp only [Option.bind_some]
      rw [e9]
      generalize wrap64 (x3 * rd (sumL (sumsTo l P[i] P[i].length)) x2) = W at hk1 ⊢
      clear e9 hkey hPl
      by_cases hm : meetsB (sumsTo l P[i] P[i].length) u le mo im = true
      · rw [if_pos hm]
        cases s with
        | none =>
          rw [if_pos (show (((toSp none).1.length : Nat) : Int) = 0 from rfl), if_pos hx.1, if_pos hlen]
          rw [bestTT_none hm] at hK2
          simp only [toSp] at hK2
          rw [hk1, Int.neg_neg] at hK2
          exact hK2
        | some q =>
          have hq := (hmem q.1 (hok q rfl).1).1
          have hq1 : ¬ ((((toSp (some q)).1.length : Nat) : Int) = 0) := by show ¬ ((q.1.length : Int) = 0); omega
          rw [if_neg hq1, if_pos hx.1, if_pos hlen]
          by_cases hlt : q.2 < scoreOf (sumsTo l P[i] P[i].length)
          · rw [bestTT_lt hm hlt] at hK2
            have hlt2 : W < (toSp (some q)).2 := by show W < -q.2; omega
            rw [if_pos hlt2]
            simp only [toSp] at hK2
            rw [hk1, Int.neg_neg] at hK2
            exact hK2
          · rw [bestTT_ge hm hlt] at hK2
            have hlt2 : ¬ (W < (toSp (some q)).2) := by show ¬ (W < -q.2); omega
            rw [if_neg hlt2]
            exact hK2
      · rw [if_neg hm]
        rw [bestTT_no hm] at hK2
        exact hK2) 0 (Nat.zero_le _)
  obtain ⟨K5, h5⟩ := hsp
  refine ⟨K4 + K5, fun k hk => ?_⟩
  unfold spec_blBest.f
  rw [h4 k (by omega)]
  exact h5 k (by omega)
theorem sumsTo_le (l : List S63) (hb : ∀ x ∈ l, binOk x = true) (hl : l.length ≤ 6) (p : List Int) (hp : p.length = l.length) (hx : ∀ x ∈ p, 0 ≤ x ∧ x ≤ 12) : ∀ i, i ≤ l.length →
    (0 ≤ (sumsTo l p i).2.1 ∧ (sumsTo l p i).2.1 ≤ 12000 * (i : Int)) ∧ (0 ≤ (sumsTo l p i).2.2.2 ∧ (sumsTo l p i).2.2.2 ≤ 12000 * (i : Int)) := by
  intro i
  induction i with
  | zero => intro _; simp [sumsTo]
  | succ i ih =>
    intro hi
    obtain ⟨⟨a1, a2⟩, a3, a4⟩ := ih (by omega)
    have e : rd p (i : Int) = p[i]'(by omega) := by simp [rd, List.getD_eq_getElem?_getD, show i < p.length by omega]
    have hr := hx _ (List.getElem_mem (show i < p.length by omega))
    rw [← e] at hr
    have hB := (binOk_iff _).1 (hb _ (List.getElem_mem (show i < l.length by omega)))
    rw [← rdB_nat l i (by omega)] at hB
    have mul : ∀ f : Int, 0 ≤ f → f ≤ 1000 → 0 ≤ rd p (i : Int) * f ∧ rd p (i : Int) * f ≤ 12000 := fun f h0 h1 => ⟨Int.mul_nonneg hr.1 h0, by
      have h := Int.mul_le_mul hr.2 h1 h0 (by omega : (0 : Int) ≤ 12)
      omega⟩
    have m1 := mul _ hB.2.1.1 hB.2.1.2
    have m2 := mul _ hB.2.2.2.1 hB.2.2.2.2
    simp only [sumsTo]
    rw [w64 (x := rd p (i : Int) * (rd_T63 l (i : Int)).f1) (by omega) (by omega), w64 (x := rd p (i : Int) * (rd_T63 l (i : Int)).f3) (by omega) (by omega), w64 (x := (sumsTo l p i).2.1 + _) (by omega) (by omega), w64 (x := (sumsTo l p i).2.2.2 + _) (by omega) (by omega)]
    omega
theorem cheapest_both (l : List S63) (hl : l.length ≤ 1048576) (u le mo im : Int) : ∃ r, (∃ K, ∀ k, K ≤ k → spec_CheapestBlend.f k l u le mo im = some r) ∧ (∃ K, ∀ k, K ≤ k → impl_CheapestBlend.f k l u le mo im = some r) ∧ r.1.length ≤ 6 := by
  obtain ⟨K1, h1⟩ := blAsked_ev l hl u le mo im
  obtain ⟨K2, h2⟩ := areBins_ev l hl
  have h3 := isWanted_eq u le mo im
  by_cases h : (binsOk l && wantOk u le mo im) = true
  · rw [h] at h1
    rw [Bool.and_eq_true] at h
    obtain ⟨g1, g2, g3⟩ := (binsOk_iff l).1 h.1
    have hw := (wantOk_iff u le mo im).1 h.2
    have hsum : ∀ m ∈ partsAll l u, 0 ≤ (sumsTo l m m.length).2.2.2 ∧ (sumsTo l m m.length).2.2.2 ≤ 72000 := fun m hm => by
      obtain ⟨m1, m2⟩ := partsAll_mem l u (by omega) m hm
      have hs := (sumsTo_le l g1 g3 m m1 m2 m.length (by omega)).2
      omega
    have hsc : ∀ m ∈ partsAll l u, scoreOf (sumsTo l m m.length) = - (sumsTo l m m.length).2.2.2 := fun m hm => by
      have hs := hsum m hm
      simp only [scoreOf]
      rw [w64 (by omega) (by omega)]
    obtain ⟨K4, h4⟩ := blBest_ev l g2 g3 u le mo im (by omega) (by omega) 3 1 (by omega) (fun m hm => by
      have hs := hsum m hm
      rw [show rd (sumL (sumsTo l m m.length)) 3 = (sumsTo l m m.length).2.2.2 from rfl, w64 (by omega) (by omega), hsc m hm]
      omega)
    obtain ⟨M', hf⟩ := fill_start l (bestStep l u le mo im) u none
    obtain ⟨_, K6, h6⟩ := foldO_ev (fun _ => bestStep l u le mo im) (bestTT l u le mo im) (fun _ => True) (partsAll l u) (fun a _ s _ => ⟨trivial, 0, fun _ _ => rfl⟩) none trivial
    rw [h6 K6 (Nat.le_refl _)] at hf
    have hok := okB_fold (P := partsAll l u) (l := l) (u := u) (le := le) (mo := mo) (im := im) (partsAll l u) none (fun m hm => hm) (fun q hq => by cases hq)
    generalize (partsAll l u).foldl (bestTT l u le mo im) none = F at h4 hf hok
    cases F with
    | none =>
      refine ⟨([], 0, false), ⟨K1 + K4, fun k hk => ?_⟩, ⟨K2, fun k hk => ?_⟩, by simp⟩
      · unfold spec_CheapestBlend.f
        rw [h1 k (by omega)]
        simp only [Option.bind_some]
        rw [if_pos trivial, h4 k (by omega)]
        rfl
      · unfold impl_CheapestBlend.f
        rw [h2 k hk, h3]
        simp only [Option.bind_some]
        rw [if_pos h.1, if_pos h.2, if_pos (by omega), hf]
        rfl
    | some q =>
      obtain ⟨q1, q2⟩ := hok q rfl
      obtain ⟨m1, m2⟩ := partsAll_mem l u (by omega) q.1 q1
      obtain ⟨K7, h7⟩ := blSums_ev l q.1 hl m1 m2
      have hs := hsum q.1 q1
      have he : wrap64 (-q.2) = (sumsTo l q.1 q.1.length).2.2.2 := by rw [q2, hsc q.1 q1, Int.neg_neg, w64 (by omega) (by omega)]
      refine ⟨(q.1, (sumsTo l q.1 q.1.length).2.2.2, true), ⟨K1 + K4 + K7, fun k hk => ?_⟩, ⟨K2, fun k hk => ?_⟩, by simp only; omega⟩
      · unfold spec_CheapestBlend.f
        rw [h1 k (by omega)]
        simp only [Option.bind_some]
        rw [if_pos trivial, h4 k (by omega)]
        simp only [Option.bind_some]
        rw [if_pos (show (spRes (some q)).2 = true from rfl), show (spRes (some q)).1 = q.1 from rfl, h7 k (by omega)]
        simp only [Option.bind_some]
        rw [if_pos (by simp [sumL])]
        rfl
      · unfold impl_CheapestBlend.f
        rw [h2 k hk, h3]
        simp only [Option.bind_some]
        rw [if_pos h.1, if_pos h.2, if_pos (by omega), hf]
        simp only [Option.bind_some]
        rw [he]
  · refine ⟨([], 0, false), ⟨K1, fun k hk => ?_⟩, ⟨K2, fun k hk => ?_⟩, by simp⟩
    · unfold spec_CheapestBlend.f
      rw [h1 k hk]
      simp only [Option.bind_some]
      rw [if_neg h]
    · unfold impl_CheapestBlend.f
      rw [h2 k hk, h3]
      simp only [Option.bind_some]
      by_cases hb : binsOk l = true
      · rw [if_pos hb, if_neg (fun hw => h (by rw [hb, hw]; rfl))]
      · rw [if_neg hb]
theorem FnExactCheapestBlend (l : List S75) (u le mo im : Int) (hl : l.length ≤ maxLen) (_ : ∀ x ∈ l, (Lit.int .i64 x.f0).wf = true ∧ (Lit.int .i64 x.f1).wf = true ∧ (Lit.int .i64 x.f2).wf = true ∧ (Lit.int .i64 x.f3).wf = true) (_ : (Lit.int .i64 u).wf = true) (_ : (Lit.int .i64 le).wf = true) (_ : (Lit.int .i64 mo).wf = true) (_ : (Lit.int .i64 im).wf = true) : ∃ k, laws_FnExactCheapestBlend.f k l u le mo im = some true := by
  obtain ⟨s, h0, hs⟩ := szBinS_ev l 1048576 (by omega) hl
  by_cases hneg : s < 0
  · refine ⟨0, ?_⟩
    unfold laws_FnExactCheapestBlend.f
    rw [h0]
    simp only [Option.bind_some]
    rw [if_pos hneg]
  · have hb := hs (by omega)
    have hbl := binsOf_length l
    obtain ⟨r, ⟨K1, h1⟩, ⟨K2, h2⟩, hr⟩ := cheapest_both (binsOf l) (by omega) u le mo im
    obtain ⟨K3, h3⟩ := toBinS_ev l (by omega)
    obtain ⟨K5, h5⟩ := eqIntS_ev r.1 (by omega)
    obtain ⟨K6, h6⟩ := eqBinS_ev (binsOf l) (by omega)
    obtain ⟨K8, h8⟩ := markBinS_ev (binsOf l) (by omega) 1 (by omega)
    obtain ⟨K10, h10⟩ := markIntS_ev r.1 (by omega) 1 (by omega)
    obtain ⟨K11, h11⟩ := heldIntS_ev r.1.length (by omega) 1 (by omega)
    refine ⟨K1 + K2 + K3 + K5 + K6 + K8 + K10 + K11 + 5, ?_⟩
    have q1 : ¬ (1 + 4 * ((binsOf l).length : Int) < 0) := by omega
    have q2 : ¬ (1 + (r.1.length : Int) < 0) := by omega
    simp (disch := omega) only [laws_FnExactCheapestBlend.f, h0, hneg, if_false, h1, h2, h3, h5, h6, laws_toWanted.f, Option.bind_some, if_true, bne_self_eq_false, Bool.false_eq_true]
    simp (disch := omega) only [laws_FnExactCheapestBlend.j0, if_false, h3, h5, h6, h8, q1, Option.bind_some, if_true, bne_self_eq_false, Bool.false_eq_true]
    simp (disch := omega) only [laws_FnExactCheapestBlend.j1, if_false, h2, h3, h5, h10, h11, q2, laws_toWanted.f, Option.bind_some, if_true, bne_self_eq_false, Bool.false_eq_true]
    simp (disch := omega) only [laws_FnExactCheapestBlend.j2, if_false, h11, q2, Option.bind_some, if_true, bne_self_eq_false, Bool.false_eq_true]

end Go.Proofs.Ytcinecbfkeefaaa.Pure
