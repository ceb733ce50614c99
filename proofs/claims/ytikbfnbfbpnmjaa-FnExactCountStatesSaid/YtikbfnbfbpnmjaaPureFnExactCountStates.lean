/- THE PURE SIDE OF FnExactCountStates: the printed functions of the reference and of the program give the same results. Plain Lean: no memory and no Go. -/
import Derived.Test.YtikbfnbfbpnmjaaMFnExactCountStates
import Derived.OpenShut
namespace Go.Proofs.Ytikbfnbfbpnmjaa.Pure
open Go.RowKit Go.Proofs.Ytikbfnbfbpnmjaa.PFnExactCountStates Go.Proofs.Ytikbfnbfbpnmjaa.MFnExactCountStates Go.Proofs.YtikbfnbfbpnmjaaW.PrintWords Go.Proofs.YtikbfnbfbpnmjaaW.PrintLast Go.Proofs.YtikbfnbfbpnmjaaW.PrintMore
set_option linter.unusedVariables false
set_option linter.unusedSimpArgs false

theorem w64 {x : Int} (h1 : -9223372036854775808 ≤ x) (h2 : x ≤ 9223372036854775807) : wrap64 x = x := by unfold wrap64; omega
theorem w64s {i : Nat} (h : i ≤ 9000000000000000000) : wrap64 ((i : Int) + 1) = ((i + 1 : Nat) : Int) := by rw [w64 (by omega) (by omega)]; omega
theorem rd_nat (l : List Int) (i : Nat) (h : i < l.length) : rd l (i : Int) = l[i] := by simp [rd, List.getD_eq_getElem?_getD, h]
def inr (lo hi x : Int) : Bool := decide (lo ≤ x) && decide (x ≤ hi)
theorem inr_iff (lo hi x : Int) : inr lo hi x = true ↔ lo ≤ x ∧ x ≤ hi := by simp [inr]
theorem inr_false (lo hi x : Int) : inr lo hi x = false ↔ ¬ (lo ≤ x ∧ x ≤ hi) := by rw [← inr_iff, Bool.not_eq_true]
theorem mx_spec (a b : Int) : a ≤ mx a b ∧ b ≤ mx a b ∧ (mx a b = a ∨ mx a b = b) := by unfold mx; split <;> omega
theorem l1In_eq (a b c : Int) : spec_l1In.f a b c = some (inr b c a) := by
  unfold spec_l1In.f inr
  by_cases h : a ≥ b
  · rw [if_pos h]; simp [show b ≤ a from h]
  · rw [if_neg h]; simp [show ¬ b ≤ a from h]
theorem l1Least_eq (a b : Int) : spec_l1Least.f a b = some (if a < b then a else b) := by
  unfold spec_l1Least.f
  split <;> rfl
theorem l1All_l0 (lo hi : Int) (l : List Int) (hl : l.length ≤ 9000000000000000000) : ∀ (d k i : Nat), i + d = l.length → d < k → spec_l1All.l0 k lo hi l (l.length : Int) (i : Int) = some ((l.drop i).all (inr lo hi)) := by
  intro d
  induction d with
  | zero =>
    intro k i hi' hk
    obtain ⟨k, rfl⟩ : ∃ m, k = m + 1 := ⟨k - 1, by omega⟩
    simp only [spec_l1All.l0]
    rw [if_neg (by omega), List.drop_of_length_le (by omega)]; rfl
  | succ d ih =>
    intro k i hi' hk
    obtain ⟨k, rfl⟩ : ∃ m, k = m + 1 := ⟨k - 1, by omega⟩
    have hlt : i < l.length := by omega
    simp only [spec_l1All.l0]
    rw [if_pos (by omega), if_pos (by omega), if_pos (by omega), l1In_eq, List.drop_eq_getElem_cons hlt, List.all_cons, rd_nat l i hlt, w64s (by omega), ih k (i + 1) (by omega) (by omega)]
    simp only [Option.bind_some]
    by_cases h : inr lo hi l[i] = true
    · rw [if_pos h, h, Bool.true_and]
    · rw [if_neg h, Bool.eq_false_iff.mpr h, Bool.false_and]
theorem l1All_eq (lo hi : Int) (l : List Int) (hl : l.length ≤ 9000000000000000000) (k : Nat) (hk : l.length < k) : spec_l1All.f k l lo hi = some (l.all (inr lo hi)) := by
  unfold spec_l1All.f
  exact l1All_l0 lo hi l hl l.length k 0 (by omega) hk
theorem eqIntS_l0 (l : List Int) (hl : l.length ≤ 9000000000000000000) : ∀ (d k i : Nat), i + d = l.length → d < k → laws_eqIntS.l0 k l l (i : Int) = some true := by
  intro d
  induction d with
  | zero =>
    intro k i hi' hk
    obtain ⟨k, rfl⟩ : ∃ m, k = m + 1 := ⟨k - 1, by omega⟩
    simp only [laws_eqIntS.l0]
    rw [if_neg (by omega)]
  | succ d ih =>
    intro k i hi' hk
    obtain ⟨k, rfl⟩ : ∃ m, k = m + 1 := ⟨k - 1, by omega⟩
    simp only [laws_eqIntS.l0]
    rw [if_pos (by omega), if_pos (by omega), if_pos (by omega), if_pos trivial, w64s (by omega)]
    exact ih k (i + 1) (by omega) (by omega)
theorem eqIntS_self (l : List Int) (hl : l.length ≤ 9000000000000000000) (k : Nat) (hk : l.length < k) : laws_eqIntS.f k l l = some true := by
  unfold laws_eqIntS.f
  rw [if_pos rfl]
  exact eqIntS_l0 l hl l.length k 0 (by omega) hk
/-- What 'mark' writes: numbers in their order. -/
def ramp (a : Int) (n : Nat) : List Int := (List.range n).map fun (i : Nat) => a + (i : Int)
theorem ramp_length (a : Int) (n : Nat) : (ramp a n).length = n := by simp [ramp]
theorem ramp_succ (a : Int) (n : Nat) : ramp a (n + 1) = ramp a n ++ [a + (n : Int)] := by simp [ramp, List.range_succ]
theorem ramp_at (a : Int) (n i : Nat) (h : i < n) : rd (ramp a n) (i : Int) = a + (i : Int) := by
  rw [rd_nat _ _ (by rw [ramp_length]; exact h)]
  simp [ramp]
theorem markIntS_l0 (a : Int) (ha : 0 ≤ a ∧ a ≤ 1000000000000000000) (l : List Int) (hl : l.length ≤ 1000000000000000000) : ∀ (d k i : Nat), i + d = l.length → d < k → laws_markIntS.l0 k (ramp a i ++ l.drop i) (a + (i : Int)) (i : Int) = some (a + (l.length : Int), ramp a l.length) := by
  intro d
  induction d with
  | zero =>
    intro k i hi' hk
    obtain ⟨k, rfl⟩ : ∃ m, k = m + 1 := ⟨k - 1, by omega⟩
    obtain rfl : i = l.length := by omega
    simp only [laws_markIntS.l0]
    rw [if_neg (by simp [ramp_length]), List.drop_of_length_le (Nat.le_refl _), List.append_nil]
  | succ d ih =>
    intro k i hi' hk
    obtain ⟨k, rfl⟩ : ∃ m, k = m + 1 := ⟨k - 1, by omega⟩
    have hlt : i < l.length := by omega
    simp only [laws_markIntS.l0]
    rw [if_pos (by simp [ramp_length]; omega), if_pos (by omega), Int.toNat_natCast, List.drop_eq_getElem_cons hlt]
    rw [List.set_append_right _ _ (by rw [ramp_length]; exact Nat.le_refl _), ramp_length, Nat.sub_self, List.set_cons_zero]
    rw [w64s (by omega), w64 (by omega) (by omega)]
    have h := ih k (i + 1) (by omega) (by omega)
    rw [ramp_succ, List.append_assoc, List.singleton_append, show a + ((i + 1 : Nat) : Int) = a + (i : Int) + 1 from by omega] at h
    exact h
theorem markIntS_eq (a : Int) (ha : 0 ≤ a ∧ a ≤ 1000000000000000000) (l : List Int) (hl : l.length ≤ 1000000000000000000) (k : Nat) (hk : l.length < k) : laws_markIntS.f k l a = some (a + (l.length : Int), ramp a l.length) := by
  unfold laws_markIntS.f
  have h := markIntS_l0 a ha l hl l.length k 0 (by omega) hk
  simpa [ramp] using h
theorem heldIntS_l0 (a : Int) (ha : 0 ≤ a ∧ a ≤ 1000000000000000000) (n : Nat) (hl : n ≤ 1000000000000000000) : ∀ (d k i : Nat), i + d = n → d < k → laws_heldIntS.l0 k (ramp a n) (a + (i : Int)) (i : Int) = some (a + (n : Int)) := by
  intro d
  induction d with
  | zero =>
    intro k i hi' hk
    obtain ⟨k, rfl⟩ : ∃ m, k = m + 1 := ⟨k - 1, by omega⟩
    obtain rfl : i = n := by omega
    simp only [laws_heldIntS.l0]
    rw [if_neg (by rw [ramp_length]; omega)]
  | succ d ih =>
    intro k i hi' hk
    obtain ⟨k, rfl⟩ : ∃ m, k = m + 1 := ⟨k - 1, by omega⟩
    simp only [laws_heldIntS.l0]
    rw [if_pos (by rw [ramp_length]; omega), if_pos (by omega), ramp_at a n i (by omega), if_pos rfl, w64s (by omega), w64 (by omega) (by omega)]
    have h := ih k (i + 1) (by omega) (by omega)
    rw [show a + ((i + 1 : Nat) : Int) = a + (i : Int) + 1 from by omega] at h
    exact h
theorem heldIntS_eq (a : Int) (ha : 0 ≤ a ∧ a ≤ 1000000000000000000) (n : Nat) (hl : n ≤ 1000000000000000000) (k : Nat) (hk : n < k) : laws_heldIntS.f k (ramp a n) a = some (a + (n : Int)) := by
  unfold laws_heldIntS.f
  have h := heldIntS_l0 a ha n hl n k 0 (by omega) hk
  simpa using h

theorem ev_loop {β : Type} {F : Nat → Nat → Option β} {n : Nat} {res : Nat → β} (last : ∃ K, ∀ k, K ≤ k → F k n = some (res n)) (step : ∀ i, i < n → ∀ K, (∀ k, K ≤ k → F k (i + 1) = some (res (i + 1))) → ∃ K, ∀ k, K ≤ k → F k i = some (res i)) : ∀ i, i ≤ n → ∃ K, ∀ k, K ≤ k → F k i = some (res i) := by
  have key : ∀ d i, i + d = n → ∃ K, ∀ k, K ≤ k → F k i = some (res i) := by
    intro d
    induction d with
    | zero => intro i h; obtain rfl : i = n := by omega
              exact last
    | succ d ih =>
      intro i h
      obtain ⟨K, hK⟩ := ih (i + 1) (by omega)
      exact step i (by omega) K hK
  exact fun i h => key (n - i) i (by omega)
/-- One round more. -/
theorem ev_suc {β : Type} {g : Nat → Option β} {r : β} (K : Nat) (h : ∀ k, K ≤ k → g (k + 1) = some r) : ∃ K, ∀ k, K ≤ k → g k = some r :=
  ⟨K + 1, fun k hk => by obtain ⟨k, rfl⟩ : ∃ m, k = m + 1 := ⟨k - 1, by omega⟩; exact h k (by omega)⟩
theorem fill_step {α : Type} (l : List α) (z : α) (i : Nat) (h : i < l.length) : (l.take i ++ List.replicate (l.length - i) z).set i l[i] = l.take (i + 1) ++ List.replicate (l.length - (i + 1)) z := by
  have e : l.length - i = (l.length - (i + 1)) + 1 := by omega
  rw [List.set_append_right _ _ (by rw [List.length_take]; omega), List.length_take, Nat.min_eq_left (by omega), Nat.sub_self, e, List.replicate_succ, List.set_cons_zero, List.take_succ_eq_append_getElem h, List.append_assoc, List.singleton_append]
theorem fill_length {α : Type} (l : List α) (z : α) (i : Nat) (h : i ≤ l.length) : (l.take i ++ List.replicate (l.length - i) z).length = l.length := by
  rw [List.length_append, List.length_take, List.length_replicate]; omega
theorem fill_last {α : Type} (l : List α) (z : α) : l.take l.length ++ List.replicate (l.length - l.length) z = l := by simp
/-- What 'sz' leaves: where it isn't below 0, the row is no longer than that. -/
theorem szIntS_ev (l : List Int) (a : Int) (ha : 0 ≤ a ∧ a ≤ 1048576) (hl : l.length ≤ maxLen) : ∃ r, laws_szIntS.f l a = some r ∧ (0 ≤ r → r = a - l.length) ∧ (r < 0 → a < l.length) := by
  simp only [maxLen] at hl
  unfold laws_szIntS.f
  rw [w64 (by omega) (by omega)]
  by_cases h : a - (l.length : Int) < 0
  · exact ⟨-1, by rw [if_pos h], fun h2 => by omega, fun _ => by omega⟩
  · exact ⟨a - (l.length : Int), by rw [if_neg h], fun _ => rfl, fun h2 => by omega⟩
theorem rdLL_nat (l : List (List Int)) (i : Nat) (h : i < l.length) : rd_L2 l (i : Int) = l[i] := by simp [rd_L2, List.getD_eq_getElem?_getD, h]
theorem szIntSS_ev (l : List (List Int)) (a : Int) (ha : 0 ≤ a ∧ a ≤ 1048576) (hl : l.length ≤ maxLen) (hx : ∀ x ∈ l, x.length ≤ maxLen) : ∃ r, (∃ K, ∀ k, K ≤ k → laws_szIntSS.f k l a = some r) ∧ (0 ≤ r → r ≤ a ∧ (l.length : Int) ≤ a ∧ ∀ x ∈ l, (x.length : Int) ≤ a) := by
  simp only [maxLen] at hl
  by_cases h : a - (l.length : Int) < 0
  · refine ⟨-1, ⟨0, fun k _ => ?_⟩, fun h2 => by omega⟩
    unfold laws_szIntSS.f
    rw [w64 (by omega) (by omega), if_pos h]
  · have key : ∀ d i, i + d = l.length → ∀ b : Int, 0 ≤ b → b ≤ a → ∃ r, (∃ K, ∀ k, K ≤ k → laws_szIntSS.l0 k l b (i : Int) = some r) ∧ (0 ≤ r → r ≤ b ∧ ∀ x ∈ l.drop i, (x.length : Int) ≤ a) := by
      intro d
      induction d with
      | zero =>
        intro i hi b hb hba
        refine ⟨b, ev_suc 0 fun k _ => ?_, fun _ => ⟨by omega, fun x hx => ?_⟩⟩
        · simp only [laws_szIntSS.l0]
          rw [if_neg (by omega)]
        · rw [List.drop_of_length_le (by omega)] at hx
          simp at hx
      | succ d ih =>
        intro i hi b hb hba
        have hlt : i < l.length := by omega
        obtain ⟨r, h1, h2, h3⟩ := szIntS_ev l[i] b (by omega) (hx _ (List.getElem_mem hlt))
        by_cases h4 : r < 0
        · refine ⟨-1, ev_suc 0 fun k _ => ?_, fun h5 => by omega⟩
          simp only [laws_szIntSS.l0]
          rw [if_pos (by omega), if_pos (by omega), rdLL_nat l i hlt, h1]
          simp only [Option.bind_some]
          rw [if_pos h4]
        · have h5 := h2 (by omega)
          obtain ⟨r2, ⟨K, h6⟩, h7⟩ := ih (i + 1) (by omega) r (by omega) (by omega)
          refine ⟨r2, ev_suc K fun k hk => ?_, fun h8 => ⟨by have := (h7 h8).1; omega, fun x hx => ?_⟩⟩
          · simp only [laws_szIntSS.l0]
            rw [if_pos (by omega), if_pos (by omega), rdLL_nat l i hlt, h1]
            simp only [Option.bind_some]
            rw [if_neg h4, w64s (by omega)]
            exact h6 k hk
          · rw [List.drop_eq_getElem_cons hlt] at hx
            rcases List.mem_cons.1 hx with rfl | hx
            · omega
            · exact (h7 h8).2 x hx
    obtain ⟨r, ⟨K, h1⟩, h2⟩ := key l.length 0 (by omega) (a - l.length) (by omega) (by omega)
    refine ⟨r, ⟨K, fun k hk => ?_⟩, fun h3 => ⟨by have := (h2 h3).1; omega, by omega, by simpa using (h2 h3).2⟩⟩
    unfold laws_szIntSS.f
    rw [w64 (by omega) (by omega), if_neg h]
    exact h1 k hk
theorem toIntS_ev (l : List Int) (hl : l.length ≤ 1048576) : ∃ K, ∀ k, K ≤ k → laws_toIntS.f k l = some l := by
  have h := ev_loop (F := fun k i => laws_toIntS.l0 k l (l.take i ++ List.replicate (l.length - i) 0) (i : Int)) (n := l.length) (res := fun _ => l)
    (ev_suc 0 fun k _ => by simp only [laws_toIntS.l0]; rw [if_neg (by omega), fill_last])
    (fun i hi K hK => ev_suc K fun k hk => by
      simp only [laws_toIntS.l0]
      rw [if_pos (by omega), if_pos (by omega), if_pos (by rw [fill_length l 0 i (by omega)]; omega), Int.toNat_natCast, rd_nat l i hi, fill_step l 0 i hi, w64s (by omega)]
      exact hK k hk) 0 (Nat.zero_le _)
  obtain ⟨K, h⟩ := h
  refine ⟨K, fun k hk => ?_⟩
  unfold laws_toIntS.f
  rw [if_pos (by omega), if_pos (by omega), Int.toNat_natCast]
  simpa using h k hk
theorem toIntSS_ev (l : List (List Int)) (hl : l.length ≤ 1048576) (hx : ∀ x ∈ l, x.length ≤ 1048576) : ∃ K, ∀ k, K ≤ k → laws_toIntSS.f k l = some l := by
  have h := ev_loop (F := fun k i => laws_toIntSS.l0 k l (l.take i ++ List.replicate (l.length - i) []) (i : Int)) (n := l.length) (res := fun _ => l)
    (ev_suc 0 fun k _ => by simp only [laws_toIntSS.l0]; rw [if_neg (by omega), fill_last])
    (fun i hi K hK => by
      obtain ⟨K2, h2⟩ := toIntS_ev l[i] (hx _ (List.getElem_mem hi))
      exact ev_suc (max K K2) fun k hk => by
        simp only [laws_toIntSS.l0]
        rw [if_pos (by omega), if_pos (by omega), rdLL_nat l i hi, h2 k (by omega)]
        simp only [Option.bind_some]
        rw [if_pos (by rw [fill_length l [] i (by omega)]; omega), Int.toNat_natCast, fill_step l [] i hi, w64s (by omega)]
        exact hK k (by omega)) 0 (Nat.zero_le _)
  obtain ⟨K, h⟩ := h
  refine ⟨K, fun k hk => ?_⟩
  unfold laws_toIntSS.f
  rw [if_pos (by omega), if_pos (by omega), Int.toNat_natCast]
  simpa using h k hk
theorem eqIntS_ev (l : List Int) (hl : l.length ≤ 1048576) : ∃ K, ∀ k, K ≤ k → laws_eqIntS.f k l l = some true :=
  ⟨l.length + 1, fun k hk => eqIntS_self l (by omega) k (by omega)⟩
theorem eqIntSS_ev (l : List (List Int)) (hl : l.length ≤ 1048576) (hx : ∀ x ∈ l, x.length ≤ 1048576) : ∃ K, ∀ k, K ≤ k → laws_eqIntSS.f k l l = some true := by
  have h := ev_loop (F := fun k i => laws_eqIntSS.l0 k l l (i : Int)) (n := l.length) (res := fun _ => true)
    (ev_suc 0 fun k _ => by simp only [laws_eqIntSS.l0]; rw [if_neg (by omega)])
    (fun i hi K hK => by
      obtain ⟨K2, h2⟩ := eqIntS_ev l[i] (hx _ (List.getElem_mem hi))
      exact ev_suc (max K K2) fun k hk => by
        simp only [laws_eqIntSS.l0]
        rw [if_pos (by omega), if_pos (by omega), if_pos (by omega), rdLL_nat l i hi, h2 k (by omega)]
        simp only [Option.bind_some]
        rw [if_pos trivial, w64s (by omega)]
        exact hK k (by omega)) 0 (Nat.zero_le _)
  obtain ⟨K, h⟩ := h
  refine ⟨K, fun k hk => ?_⟩
  unfold laws_eqIntSS.f
  rw [if_pos rfl]
  exact h k hk
theorem markIntS_ev (l : List Int) (hl : l.length ≤ 1048576) (a : Int) (ha : 0 ≤ a ∧ a ≤ 1000000000000000000) : ∃ K, ∀ k, K ≤ k → laws_markIntS.f k l a = some (a + (l.length : Int), ramp a l.length) :=
  ⟨l.length + 1, fun k hk => markIntS_eq a ha l (by omega) k (by omega)⟩
theorem heldIntS_ev (n : Nat) (hl : n ≤ 1048576) (a : Int) (ha : 0 ≤ a ∧ a ≤ 1000000000000000000) : ∃ K, ∀ k, K ≤ k → laws_heldIntS.f k (ramp a n) a = some (a + (n : Int)) :=
  ⟨n + 1, fun k hk => heldIntS_eq a ha n (by omega) k (by omega)⟩
theorem l1All_ev (lo hi : Int) (l : List Int) (hl : l.length ≤ 1048576) : ∃ K, ∀ k, K ≤ k → spec_l1All.f k l lo hi = some (l.all (inr lo hi)) :=
  ⟨l.length + 1, fun k hk => l1All_eq lo hi l (by omega) k (by omega)⟩

theorem szFleet_ev (a b c : List Int) (d e : Int) (l : Int) (hl : 0 ≤ l ∧ l ≤ 1048576) (ha : a.length ≤ maxLen) (hb : b.length ≤ maxLen) (hc : c.length ≤ maxLen) : ∃ r, laws_szFleet.f a b c d e l = some r ∧ (0 ≤ r → r = l - a.length - b.length - c.length) := by
  unfold laws_szFleet.f
  obtain ⟨r1, h1, h2, h3⟩ := szIntS_ev a l hl ha
  rw [h1]
  simp only [Option.bind_some]
  by_cases n1 : r1 < 0
  · exact ⟨-1, by rw [if_pos n1], fun h => by omega⟩
  · rw [if_neg n1]
    have e1 := h2 (by omega)
    obtain ⟨r2, h4, h5, h6⟩ := szIntS_ev b r1 (by omega) hb
    rw [h4]
    simp only [Option.bind_some]
    by_cases n2 : r2 < 0
    · exact ⟨-1, by rw [if_pos n2], fun h => by omega⟩
    · rw [if_neg n2]
      have e2 := h5 (by omega)
      obtain ⟨r3, h7, h8, h9⟩ := szIntS_ev c r2 (by omega) hc
      rw [h7]
      simp only [Option.bind_some]
      by_cases n3 : r3 < 0
      · exact ⟨-1, by rw [if_pos n3], fun h => by omega⟩
      · exact ⟨r3, by rw [if_neg n3], fun h => by have := h8 h; omega⟩
theorem toFleet_ev (a b c : List Int) (d e : Int) (ha : a.length ≤ 1048576) (hb : b.length ≤ 1048576) (hc : c.length ≤ 1048576) : ∃ K, ∀ k, K ≤ k → laws_toFleet.f k a b c d e = some (a, b, c, d, e) := by
  obtain ⟨K1, h1⟩ := toIntS_ev a ha
  obtain ⟨K2, h2⟩ := toIntS_ev b hb
  obtain ⟨K3, h3⟩ := toIntS_ev c hc
  exact ⟨K1 + K2 + K3, fun k hk => by simp (disch := omega) only [laws_toFleet.f, h1, h2, h3, Option.bind_some]⟩
theorem eqFleet_ev (a b c : List Int) (d e : Int) (ha : a.length ≤ 1048576) (hb : b.length ≤ 1048576) (hc : c.length ≤ 1048576) : ∃ K, ∀ k, K ≤ k → laws_eqFleet.f k a b c d e a b c d e = some true := by
  obtain ⟨K1, h1⟩ := eqIntS_ev a ha
  obtain ⟨K2, h2⟩ := eqIntS_ev b hb
  obtain ⟨K3, h3⟩ := eqIntS_ev c hc
  exact ⟨K1 + K2 + K3, fun k hk => by simp (disch := omega) only [laws_eqFleet.f, h1, h2, h3, Option.bind_some, if_true]⟩
def timesOk (l : List Int) (n : Nat) : Bool := decide (l.length = n) && l.all (inr 1 50)
def fleetOk (a b c : List Int) (d e : Int) : Bool := inr 1 4 (a.length : Int) && (timesOk a a.length && (timesOk b a.length && (timesOk c a.length && (inr 1 50 d && inr 1 400 e))))
structure Fleet (a b c : List Int) (d e : Int) : Prop where
  n : 1 ≤ a.length ∧ a.length ≤ 4
  lb : b.length = a.length
  lc : c.length = a.length
  a : ∀ x ∈ a, 1 ≤ x ∧ x ≤ 50
  b : ∀ x ∈ b, 1 ≤ x ∧ x ≤ 50
  c : ∀ x ∈ c, 1 ≤ x ∧ x ≤ 50
  d : 1 ≤ d ∧ d ≤ 50
  e : 1 ≤ e ∧ e ≤ 400
theorem fleetOk_iff (a b c : List Int) (d e : Int) : fleetOk a b c d e = true ↔ Fleet a b c d e := by
  simp only [fleetOk, timesOk, Bool.and_eq_true, inr_iff, decide_eq_true_eq, List.all_eq_true]
  constructor
  · rintro ⟨h1, ⟨_, h2⟩, ⟨h3, h4⟩, ⟨h5, h6⟩, h7, h8⟩
    exact ⟨by omega, h3, h5, h2, h4, h6, h7, h8⟩
  · rintro ⟨h1, h2, h3, h4, h5, h6, h7, h8⟩
    exact ⟨by omega, ⟨trivial, h4⟩, ⟨h2, h5⟩, ⟨h3, h6⟩, h7, h8⟩
theorem flTimes_ev (l : List Int) (hl : l.length ≤ 1048576) (n : Nat) : ∃ K, ∀ k, K ≤ k → spec_flTimes.f k l (n : Int) = some (timesOk l n) := by
  obtain ⟨K, h⟩ := l1All_ev 1 50 l hl
  refine ⟨K, fun k hk => ?_⟩
  unfold spec_flTimes.f timesOk
  by_cases h1 : l.length = n
  · rw [if_pos (by omega), h k hk, decide_eq_true h1, Bool.true_and]; rfl
  · rw [if_neg (by omega), decide_eq_false h1, Bool.false_and]
theorem flFleet_ev (a b c : List Int) (d e : Int) (ha : a.length ≤ 1048576) (hb : b.length ≤ 1048576) (hc : c.length ≤ 1048576) : ∃ K, ∀ k, K ≤ k → spec_flFleet.f k a b c d e = some (fleetOk a b c d e) := by
  obtain ⟨K1, h1⟩ := flTimes_ev a ha a.length
  obtain ⟨K2, h2⟩ := flTimes_ev b hb a.length
  obtain ⟨K3, h3⟩ := flTimes_ev c hc a.length
  refine ⟨K1 + K2 + K3, fun k hk => ?_⟩
  unfold spec_flFleet.f fleetOk
  simp (disch := omega) only [l1In_eq, h1, h2, h3, Option.bind_some]
  cases inr 1 4 (a.length : Int) <;> cases timesOk a a.length <;> cases timesOk b a.length <;> cases timesOk c a.length <;> cases inr 1 50 d <;> simp
theorem rdLL_natF (l : List (List Int)) (i : Nat) (h : i < l.length) : rd_L2 l (i : Int) = l[i] := by simp [rd_L2, List.getD_eq_getElem?_getD, h]
theorem implIsFleet_l1 (row : List (List Int)) (n i : Int) (c : List Int) (hc : c.length ≤ 1048576) (R : Bool) (K : Nat) (h : ∀ k, K ≤ k → impl_IsFleet.l0 k row n (wrap64 (i + 1)) = some R) :
    ∃ K, ∀ k, K ≤ k → impl_IsFleet.l1 k row n i c (c.length : Int) 0 = some (c.all (inr 1 50) && R) := by
  have h := ev_loop (F := fun k j => impl_IsFleet.l1 k row n i c (c.length : Int) (j : Int)) (n := c.length) (res := fun j => (c.drop j).all (inr 1 50) && R)
    (ev_suc K fun k hk => by
      simp only [impl_IsFleet.l1]
      rw [if_neg (by omega), List.drop_of_length_le (Nat.le_refl _), h k hk]
      rfl)
    (fun j hj K hK => ev_suc K fun k hk => by
      simp only [impl_IsFleet.l1]
      rw [if_pos (by omega), if_pos (by omega), if_pos (by omega), rd_nat c j hj, List.drop_eq_getElem_cons hj, List.all_cons]
      by_cases h1 : c[j] < 1
      · rw [if_pos h1, (inr_false _ _ _).2 (by omega)]; rfl
      · rw [if_neg h1]
        by_cases h2 : c[j] > 50
        · rw [if_pos h2, (inr_false _ _ _).2 (by omega)]; rfl
        · rw [if_neg h2, (inr_iff _ _ _).2 (by omega), w64s (by omega), hK k hk]; rfl) 0 (Nat.zero_le _)
  exact h
theorem implIsFleet_l0 (l : List (List Int)) (hl : l.length ≤ 10) (hx : ∀ x ∈ l, x.length ≤ 1048576) : ∃ K, ∀ k, K ≤ k → impl_IsFleet.l0 k l (l.length : Int) 0 = some (l.all fun x => x.all (inr 1 50)) := by
  have h := ev_loop (F := fun k i => impl_IsFleet.l0 k l (l.length : Int) (i : Int)) (n := l.length) (res := fun i => (l.drop i).all fun x => x.all (inr 1 50))
    (ev_suc 0 fun k _ => by
      simp only [impl_IsFleet.l0]
      rw [if_neg (by omega), List.drop_of_length_le (Nat.le_refl _)]
      rfl)
    (fun i hi K hK => by
      obtain ⟨K2, h2⟩ := implIsFleet_l1 l (l.length : Int) (i : Int) l[i] (hx _ (List.getElem_mem hi)) _ K (by rw [w64s (by omega)]; exact hK)
      exact ev_suc K2 fun k hk => by
        simp only [impl_IsFleet.l0]
        rw [if_pos (by omega), if_pos (by omega), if_pos (by omega), rdLL_natF l i hi, List.drop_eq_getElem_cons hi, List.all_cons, h2 k hk]) 0 (Nat.zero_le _)
  exact h
theorem implIsFleet_ev (a b c : List Int) (d e : Int) (ha : a.length ≤ 1048576) (hb : b.length ≤ 1048576) (hc : c.length ≤ 1048576) : ∃ K, ∀ k, K ≤ k → impl_IsFleet.f k a b c d e = some (fleetOk a b c d e) := by
  obtain ⟨K, h⟩ := implIsFleet_l0 [a, b, c] (by simp) (by simp [ha, hb, hc])
  refine ev_suc K fun k hk => ?_
  have h := h k hk
  have hj : ∀ x, impl_IsFleet.j0 (k + 1) x a b c d e = some (!x && (a.all (inr 1 50) && (b.all (inr 1 50) && c.all (inr 1 50)))) := by
    intro x
    simp only [impl_IsFleet.j0]
    cases x
    · rw [if_neg (by simp)]
      simp only [Option.bind_some]
      rw [h]
      simp
    · rw [if_pos rfl]; rfl
  unfold impl_IsFleet.f fleetOk timesOk
  simp only [hj]
  by_cases h1 : (a.length : Int) < 1
  · rw [if_pos h1, (inr_false 1 4 _).2 (by omega)]; rfl
  · rw [if_neg h1]
    by_cases h2 : (a.length : Int) > 4
    · rw [if_pos h2, (inr_false 1 4 _).2 (by omega)]; rfl
    · rw [if_neg h2, (inr_iff 1 4 _).2 (by omega)]
      by_cases h3 : (b.length : Int) = (a.length : Int)
      · rw [if_pos h3, decide_eq_true (show b.length = a.length by omega)]
        by_cases h4 : (c.length : Int) = (a.length : Int)
        · rw [if_pos h4, decide_eq_true (show c.length = a.length by omega)]
          by_cases h5 : d < 1
          · rw [if_pos h5, (inr_false 1 50 d).2 (by omega)]; simp
          · rw [if_neg h5]
            by_cases h6 : d > 50
            · rw [if_pos h6, (inr_false 1 50 d).2 (by omega)]; simp
            · rw [if_neg h6, (inr_iff 1 50 d).2 (by omega)]
              by_cases h7 : e < 1
              · rw [if_pos h7, (inr_false 1 400 e).2 (by omega)]; simp
              · rw [if_neg h7]
                by_cases h8 : e > 400
                · rw [decide_eq_true h8, (inr_false 1 400 e).2 (by omega)]; simp
                · rw [decide_eq_false h8, (inr_iff 1 400 e).2 (by omega)]; simp
        · rw [if_neg h4, decide_eq_false (show ¬ c.length = a.length by omega)]; simp
      · rw [if_neg h3, decide_eq_false (show ¬ b.length = a.length by omega)]; simp
/-! Yards: trucks and lists. -/
theorem rdT_nat (l : List S80) (i : Nat) (h : i < l.length) : rd_T80 l (i : Int) = l[i] := by simp [rd_T80, List.getD_eq_getElem?_getD, h]
/-- The time of a state. -/
def timeOf (a b c : List Int) (d : Int) (st s : Int) : Int := if st = 1 then rd a s else if st = 2 then rd b s else if st = 4 then d else if st = 5 then rd c s else 0
theorem rdin {l : List Int} {lo hi : Int} (h : ∀ x ∈ l, lo ≤ x ∧ x ≤ hi) {s : Int} (h0 : 0 ≤ s) (h1 : s < (l.length : Int)) : lo ≤ rd l s ∧ rd l s ≤ hi := by
  obtain ⟨i, rfl⟩ := Int.eq_ofNat_of_zero_le h0
  have hi : i < l.length := by omega
  rw [rd_nat l i hi]
  exact h _ (List.getElem_mem hi)
theorem flTime_eq {a b c : List Int} {d e : Int} (F : Fleet a b c d e) {s : Int} (h0 : 0 ≤ s) (h1 : s < (a.length : Int)) (st : Int) : spec_flTime.f a b c d e st s = some (timeOf a b c d st s) := by
  have hb := F.lb
  have hc := F.lc
  unfold spec_flTime.f timeOf
  (repeat' split) <;> first | rfl | omega | (exfalso; omega)
theorem stateTime_eq {a b c : List Int} {d e : Int} (F : Fleet a b c d e) {s : Int} (h0 : 0 ≤ s) (h1 : s < (a.length : Int)) (st z : Int) : impl_stateTime.f a b c d e st s z = some (timeOf a b c d st s) := by
  have hb := F.lb
  have hc := F.lc
  unfold impl_stateTime.f timeOf
  (repeat' split) <;> first | rfl | omega | (exfalso; omega)
theorem time_bounds {a b c : List Int} {d e : Int} (F : Fleet a b c d e) {s : Int} (h0 : 0 ≤ s) (h1 : s < (a.length : Int)) (st : Int) : 0 ≤ timeOf a b c d st s ∧ timeOf a b c d st s ≤ 50 ∧ ((st = 1 ∨ st = 2 ∨ st = 4 ∨ st = 5) → 1 ≤ timeOf a b c d st s) ∧ (¬ (st = 1 ∨ st = 2 ∨ st = 4 ∨ st = 5) → timeOf a b c d st s = 0) := by
  have hb := F.lb
  have hc := F.lc
  have ka := rdin F.a h0 h1
  have kb := rdin F.b h0 (by omega)
  have kc := rdin F.c h0 (by omega)
  have kd := F.d
  unfold timeOf
  (repeat' split) <;> omega
def lsOf (m : Int) : Int := if m < 1 then m else 1
/-- Is a truck valid? -/
def okT (a b c : List Int) (d : Int) (t : S80) : Bool := inr 0 5 t.f0 && (inr 0 ((a.length : Int) - 1) t.f1 && inr (lsOf (timeOf a b c d t.f0 t.f1)) (timeOf a b c d t.f0 t.f1) t.f2)
/-- The place that a truck takes, or -1. -/
def placeOf (t : S80) : Int := if t.f0 = 1 then t.f1 else if t.f0 = 4 then 9 else -1
def spT (a b c : List Int) (d : Int) : List S80 → List Int → Bool
  | [], _ => true
  | t :: ts, bs => okT a b c d t && (!(decide (0 ≤ placeOf t) && decide (placeOf t ∈ bs)) && spT a b c d ts (bs ++ [placeOf t]))
theorem l1HasY_ev (l : List Int) (hl : l.length ≤ 1048576) (a : Int) : ∃ K, ∀ k, K ≤ k → spec_l1Has.f k l a = some (decide (a ∈ l)) := by
  have h := ev_loop (F := fun k i => spec_l1Has.l0 k a l (l.length : Int) (i : Int)) (n := l.length) (res := fun i => decide (a ∈ l.drop i))
    (ev_suc 0 fun k _ => by
      simp only [spec_l1Has.l0]
      rw [if_neg (by omega), List.drop_of_length_le (Nat.le_refl _)]
      rfl)
    (fun i hi K hK => ev_suc K fun k hk => by
      simp only [spec_l1Has.l0]
      rw [if_pos (by omega), if_pos (by omega), if_pos (by omega), rd_nat l i hi, List.drop_eq_getElem_cons hi]
      by_cases h1 : l[i] = a
      · rw [if_pos h1, h1]; simp
      · rw [if_neg h1, w64s (by omega), hK k hk]
        have h2 : ¬ a = l[i] := fun h => h1 h.symm
        exact congrArg some (decide_eq_decide.2 (by rw [List.mem_cons]; exact ⟨.inr, fun h => h.resolve_left h2⟩))) 0 (Nat.zero_le _)
  exact h
theorem flTrucks_ev {a b c : List Int} {d e : Int} (F : Fleet a b c d e) (tr : List S80) (ht : tr.length ≤ 1048576) (ws : List (List Int)) (ln : List Int) (ti du id_ : Int) : ∃ K, ∀ k, K ≤ k → spec_flTrucks.f k a b c d e tr ws ln ti du id_ = some (spT a b c d tr [] && inr 1 8 (tr.length : Int)) := by
  have hn := F.n
  have h := ev_loop (F := fun k i => spec_flTrucks.l0 k ((tr.take i).map placeOf) tr (tr.length : Int) (i : Int) a b c d e tr ws ln ti du id_) (n := tr.length) (res := fun i => spT a b c d (tr.drop i) ((tr.take i).map placeOf) && inr 1 8 (tr.length : Int))
    (ev_suc 0 fun k _ => by
      simp only [spec_flTrucks.l0]
      rw [if_neg (by omega), List.drop_of_length_le (Nat.le_refl _), l1In_eq]
      simp [spT])
    (fun i hi K hK => by
      obtain ⟨K2, h2⟩ := l1HasY_ev ((tr.take i).map placeOf) (by simp; omega) tr[i].f1
      obtain ⟨K3, h3⟩ := l1HasY_ev ((tr.take i).map placeOf) (by simp; omega) 9
      have hbl : ((tr.take i).map placeOf).length = i := by simp; omega
      have hpush : (tr.take (i + 1)).map placeOf = (tr.take i).map placeOf ++ [placeOf tr[i]] := by
        rw [List.take_succ_eq_append_getElem hi, List.map_append]; rfl
      rw [hpush] at hK
      refine ev_suc (K + K2 + K3 + 1) fun k hk => ?_
      obtain ⟨k, rfl⟩ : ∃ m, k = m + 1 := ⟨k - 1, by omega⟩
      have hK := hK k (by omega)
      have h2 := h2 k (by omega)
      have h3 := h3 k (by omega)
      obtain ⟨t, hte⟩ : ∃ t, t = tr[i] := ⟨_, rfl⟩
      rw [← hte] at hK h2
      rw [List.drop_eq_getElem_cons hi, ← hte]
      simp only [spT]
      obtain ⟨bs, hbs⟩ : ∃ bs, bs = (tr.take i).map placeOf := ⟨_, rfl⟩
      rw [← hbs] at hK h2 h3 hbl ⊢
      obtain ⟨R, hR⟩ : ∃ R, R = (spT a b c d (tr.drop (i + 1)) (bs ++ [placeOf t]) && inr 1 8 (tr.length : Int)) := ⟨_, rfl⟩
      have hgoal : ∀ x y : Bool, (x && (y && spT a b c d (tr.drop (i + 1)) (bs ++ [placeOf t])) && inr 1 8 (tr.length : Int)) = (x && (y && R)) := by intro x y; rw [hR]; cases x <;> cases y <;> simp
      rw [hgoal]
      rw [← hR] at hK
      have hrt : rd_T80 tr (i : Int) = t := by rw [rdT_nat tr i hi, hte]
      simp only [spec_flTrucks.l0]
      rw [if_pos (by omega), if_pos (by omega), if_pos (by omega), hrt, l1In_eq, l1In_eq, w64 (x := (a.length : Int) - 1) (by omega) (by omega)]
      simp only [Option.bind_some]
      unfold okT
      by_cases g1 : inr 0 5 t.f0 = true
      · rw [if_pos g1, g1, Bool.true_and]
        by_cases g2 : inr 0 ((a.length : Int) - 1) t.f1 = true
        · have g1' := (inr_iff _ _ _).1 g1
          have g2' := (inr_iff _ _ _).1 g2
          rw [g2, Bool.true_and]
          simp only [spec_flTrucks.j1, Bool.not_true, Bool.false_eq_true, if_false]
          rw [flTime_eq F g2'.1 (by omega)]
          simp only [Option.bind_some]
          rw [l1Least_eq]
          simp only [Option.bind_some]
          rw [l1In_eq]
          simp only [Option.bind_some]
          have hls : lsOf (timeOf a b c d t.f0 t.f1) = if timeOf a b c d t.f0 t.f1 < 1 then timeOf a b c d t.f0 t.f1 else 1 := rfl
          rw [← hls]
          by_cases g3 : inr (lsOf (timeOf a b c d t.f0 t.f1)) (timeOf a b c d t.f0 t.f1) t.f2 = true
          · rw [if_pos g3, g3, Bool.true_and, w64s (by omega)]
            unfold placeOf at hK ⊢
            by_cases p1 : t.f0 = 1
            · rw [if_pos p1] at hK ⊢
              rw [if_pos p1, if_pos (by omega), h2, decide_eq_true (show 0 ≤ t.f1 from g2'.1)]
              simp only [Option.bind_some, Bool.true_and]
              by_cases p2 : t.f1 ∈ bs
              · rw [decide_eq_true p2]; rfl
              · rw [decide_eq_false p2, if_neg (by simp), if_pos (by omega), hK]; rfl
            · rw [if_neg p1] at hK ⊢
              rw [if_neg p1]
              by_cases p4 : t.f0 = 4
              · rw [if_pos p4] at hK ⊢
                rw [if_pos p4, if_pos (by omega), h3]
                simp only [Option.bind_some]
                by_cases p2 : (9 : Int) ∈ bs
                · rw [decide_eq_true p2]; rfl
                · rw [decide_eq_false p2, if_neg (by simp), if_pos (by omega), hK]; rfl
              · rw [if_neg p4] at hK ⊢
                rw [if_neg p4, if_neg (by omega), if_pos (by omega), hK]; rfl
          · rw [if_neg g3, Bool.eq_false_iff.mpr g3]; rfl
        · rw [Bool.eq_false_iff.mpr g2]
          simp only [spec_flTrucks.j1, Bool.not_false, if_true]
          rfl
      · rw [if_neg g1, Bool.eq_false_iff.mpr g1]
        simp only [spec_flTrucks.j1, if_true]
        rfl) 0 (Nat.zero_le _)
  obtain ⟨K, h⟩ := h
  exact ⟨K, fun k hk => h k hk⟩
/-- Does a truck stand in such a list? -/
def isM (t : S80) (st sh : Int) : Bool := (t.f0 == st) && (decide (sh < 0) || (t.f1 == sh))
def pm (tr : List S80) (st sh : Int) (j : Nat) : Bool := isM (rd_T80 tr (j : Int)) st sh
def mOf (tr : List S80) (st sh : Int) (n : Nat) : List Nat := (List.range n).filter (pm tr st sh)
def allM (tr : List S80) (list : List Int) (st sh : Int) (i : Nat) : Bool := ((List.range tr.length).drop i).all fun j => !(pm tr st sh j) || decide ((j : Int) ∈ list)
def flL (tr : List S80) (list : List Int) (st sh : Int) : Bool := allM tr list st sh 0 && decide ((mOf tr st sh tr.length).length = list.length)
theorem flList_ev (a b c : List Int) (d e : Int) (tr : List S80) (ht : tr.length ≤ 1048576) (ws : List (List Int)) (ln : List Int) (ti du id_ : Int) (list : List Int) (hl : list.length ≤ 1048576) (st sh : Int) : ∃ K, ∀ k, K ≤ k → spec_flList.f k a b c d e tr ws ln ti du id_ list st sh = some (flL tr list st sh) := by
  have hml : ∀ i, (mOf tr st sh i).length ≤ i := fun i => by
    have := List.length_filter_le (pm tr st sh) (List.range i)
    rw [List.length_range] at this
    exact this
  have hms : ∀ i, mOf tr st sh (i + 1) = if pm tr st sh i = true then mOf tr st sh i ++ [i] else mOf tr st sh i := by
    intro i
    unfold mOf
    rw [List.range_succ, List.filter_append]
    by_cases h : pm tr st sh i = true
    · rw [if_pos h, List.filter_cons_of_pos h]; rfl
    · rw [if_neg h, List.filter_cons_of_neg h]; simp
  have h := ev_loop (F := fun k i => spec_flList.l0 k list st sh ((mOf tr st sh i).length : Int) tr (tr.length : Int) (i : Int)) (n := tr.length) (res := fun i => allM tr list st sh i && decide ((mOf tr st sh tr.length).length = list.length))
    (ev_suc 0 fun k _ => by
      simp only [spec_flList.l0]
      rw [if_neg (by omega)]
      unfold allM
      rw [List.drop_of_length_le (by simp)]
      simp only [List.all_nil, Bool.true_and]
      refine congrArg some ?_
      rw [Bool.eq_iff_iff]
      simp
      omega)
    (fun i hi K hK => by
      obtain ⟨K2, h2⟩ := l1HasY_ev list hl (i : Int)
      have hm := hml i
      refine ev_suc (K + K2 + 1) fun k hk => ?_
      obtain ⟨k, rfl⟩ : ∃ m, k = m + 1 := ⟨k - 1, by omega⟩
      have hK := hK k (by omega)
      have hall : allM tr list st sh i = ((!(pm tr st sh i) || decide ((i : Int) ∈ list)) && allM tr list st sh (i + 1)) := by
        unfold allM
        rw [List.drop_eq_getElem_cons (by simpa using hi), List.all_cons, List.getElem_range]
      rw [hall]
      have hj : ∀ z : Bool, z = pm tr st sh i → spec_flList.j1 (k + 1) list st sh ((mOf tr st sh i).length : Int) (i : Int) tr (tr.length : Int) (i : Int) z = some ((!(pm tr st sh i) || decide ((i : Int) ∈ list)) && allM tr list st sh (i + 1) && decide ((mOf tr st sh tr.length).length = list.length)) := by
        rintro _ rfl
        rw [hms i] at hK
        simp only [spec_flList.j1]
        by_cases g : pm tr st sh i = true
        · rw [if_pos g] at hK
          rw [if_pos g, g, h2 k (by omega)]
          simp only [Option.bind_some, Bool.not_true, Bool.false_or]
          by_cases g2 : (i : Int) ∈ list
          · rw [if_pos (decide_eq_true g2), decide_eq_true g2, Bool.true_and, w64s (by omega), w64s (by omega)]
            rw [List.length_append, List.length_singleton] at hK
            exact hK
          · rw [if_neg (by simpa using g2), decide_eq_false g2]; rfl
        · rw [if_neg g] at hK
          rw [if_neg g, Bool.eq_false_iff.mpr g, w64s (by omega)]
          simpa using hK
      simp only [spec_flList.l0]
      rw [if_pos (by omega), if_pos (by omega), if_pos (by omega)]
      have hpm : pm tr st sh i = isM (rd_T80 tr (i : Int)) st sh := rfl
      unfold isM at hpm
      by_cases g1 : (rd_T80 tr (i : Int)).f0 = st
      · rw [if_pos g1]
        by_cases g2 : sh < 0
        · rw [if_pos g2]
          exact hj true (by rw [hpm, decide_eq_true g2, g1]; simp)
        · rw [if_neg g2]
          exact hj _ (by rw [hpm, decide_eq_false g2, g1]; simp)
      · rw [if_neg g1]
        exact hj false (by rw [hpm]; simp [g1])) 0 (Nat.zero_le _)
  exact h
/-- A yard that is valid. -/
def listsOk (tr : List S80) (ws : List (List Int)) (ln : List Int) : Bool := ((List.range ws.length).all fun s => flL tr (ws.getD s []) 0 (s : Int)) && flL tr ln 3 (-1)
def yardOk (a b c : List Int) (d e : Int) (tr : List S80) (ws : List (List Int)) (ln : List Int) (ti du id_ : Int) : Bool :=
  fleetOk a b c d e && (spT a b c d tr [] && (inr 1 8 (tr.length : Int) && (decide (ws.length = a.length) && (listsOk tr ws ln && (inr 0 100000 ti && (inr 0 100000 du && inr 0 ti id_))))))
theorem rdLL_natY (l : List (List Int)) (i : Nat) (h : i < l.length) : rd_L2 l (i : Int) = l[i] := by simp [rd_L2, List.getD_eq_getElem?_getD, h]
theorem flGood_ev (a b c : List Int) (d e : Int) (ha : a.length ≤ 1048576) (hb : b.length ≤ 1048576) (hc : c.length ≤ 1048576) (tr : List S80) (ht : tr.length ≤ 1048576) (ws : List (List Int)) (hw : ws.length ≤ 1048576) (hwx : ∀ x ∈ ws, x.length ≤ 1048576) (ln : List Int) (hl : ln.length ≤ 1048576) (ti du id_ : Int) : ∃ K, ∀ k, K ≤ k → spec_flGood.f k a b c d e tr ws ln ti du id_ = some (yardOk a b c d e tr ws ln ti du id_) := by
  obtain ⟨K1, h1⟩ := flFleet_ev a b c d e ha hb hc
  unfold yardOk
  by_cases gF : fleetOk a b c d e = true
  · have F := (fleetOk_iff _ _ _ _ _).1 gF
    obtain ⟨K2, h2⟩ := flTrucks_ev F tr ht ws ln ti du id_
    obtain ⟨K3, h3⟩ := flList_ev a b c d e tr ht ws ln ti du id_ ln hl 3 (-1)
    have hloop := ev_loop (F := fun k s => spec_flGood.l0 k ws (ws.length : Int) (s : Int) a b c d e tr ws ln ti du id_) (n := ws.length) (res := fun s => (((List.range ws.length).drop s).all fun s => flL tr (ws.getD s []) 0 (s : Int)) && (flL tr ln 3 (-1) && (inr 0 100000 ti && (inr 0 100000 du && inr 0 ti id_))))
      (ev_suc K3 fun k hk => by
        simp only [spec_flGood.l0]
        rw [if_neg (by omega), List.drop_of_length_le (by simp), h3 k hk]
        simp only [Option.bind_some, l1In_eq, List.all_nil, Bool.true_and]
        cases flL tr ln 3 (-1) <;> cases inr 0 100000 ti <;> cases inr 0 100000 du <;> simp)
      (fun s hs K hK => by
        obtain ⟨K4, h4⟩ := flList_ev a b c d e tr ht ws ln ti du id_ ws[s] (hwx _ (List.getElem_mem hs)) 0 (s : Int)
        exact ev_suc (K + K4) fun k hk => by
          have hg : ws.getD s [] = ws[s] := by simp [List.getD_eq_getElem?_getD, hs]
          simp only [spec_flGood.l0]
          rw [if_pos (by omega), if_pos (by omega), if_pos (by omega), rdLL_natY ws s hs, h4 k (by omega), w64s (by omega), List.drop_eq_getElem_cons (by simpa using hs), List.all_cons, List.getElem_range, hg]
          simp only [Option.bind_some]
          cases flL tr ws[s] 0 (s : Int) with
          | true => rw [if_pos rfl, Bool.true_and]; exact hK k (by omega)
          | false => rw [if_neg (by simp)]; simp) 0 (Nat.zero_le _)
    obtain ⟨K5, h5⟩ := hloop
    refine ⟨K1 + K2 + K5 + 1, fun k hk => ?_⟩
    obtain ⟨k, rfl⟩ : ∃ m, k = m + 1 := ⟨k - 1, by omega⟩
    have h5 := h5 k (by omega)
    unfold spec_flGood.f
    rw [h1 _ (by omega), gF]
    simp only [Option.bind_some, if_true, Bool.true_and]
    rw [h2 _ (by omega)]
    simp only [Option.bind_some]
    by_cases gT : (spT a b c d tr [] && inr 1 8 (tr.length : Int)) = true
    · rw [if_pos gT]
      rw [Bool.and_eq_true] at gT
      rw [gT.1, gT.2, Bool.true_and, Bool.true_and]
      simp only [spec_flGood.j0]
      by_cases gw : ws.length = a.length
      · have hbne : ((ws.length : Int) != (a.length : Int)) = false := by simp [gw]
        rw [hbne, if_neg (by simp), decide_eq_true gw, Bool.true_and]
        unfold listsOk
        rw [Bool.and_assoc]
        exact h5
      · have hbne : ((ws.length : Int) != (a.length : Int)) = true := by simp; omega
        rw [hbne, if_pos rfl, decide_eq_false gw]; rfl
    · rw [if_neg gT]
      simp only [spec_flGood.j0, if_true]
      cases c1 : spT a b c d tr [] <;> cases c2 : inr 1 8 (tr.length : Int) <;> simp [c1, c2] at gT ⊢
  · refine ⟨K1 + 1, fun k hk => ?_⟩
    obtain ⟨k, rfl⟩ : ∃ m, k = m + 1 := ⟨k - 1, by omega⟩
    unfold spec_flGood.f
    rw [h1 _ (by omega), Bool.eq_false_iff.mpr gF]
    simp only [Option.bind_some, Bool.false_eq_true, if_false, spec_flGood.j0, if_true]
    rfl
/-! The program's side: counts of those that load and dump. -/
def imT (a b c : List Int) (d : Int) (G : Bool) : List S80 → List Int → Int → Bool
  | [], ld, dm => decide (ld.foldl mx 0 ≤ 1) && (decide (dm ≤ 1) && G)
  | t :: ts, ld, dm => okT a b c d t && imT a b c d G ts (if t.f0 = 1 then ld.set t.f1.toNat (rd ld t.f1 + 1) else ld) (if t.f0 = 4 then dm + 1 else dm)
theorem foldl_mx (l : List Int) : ∀ z : Int, (z ≤ l.foldl mx z) ∧ (∀ v ∈ l, v ≤ l.foldl mx z) ∧ (l.foldl mx z = z ∨ l.foldl mx z ∈ l) := by
  induction l with
  | nil => intro z; simp
  | cons x l ih =>
    intro z
    obtain ⟨h1, h2, h3⟩ := ih (mx z x)
    have hm := mx_spec z x
    simp only [List.foldl_cons]
    refine ⟨by omega, fun v hv => ?_, ?_⟩
    · rcases List.mem_cons.1 hv with rfl | hv
      · omega
      · exact h2 v hv
    · rcases h3 with h3 | h3
      · rcases hm.2.2 with hm | hm
        · exact .inl (h3.trans hm)
        · exact .inr (by rw [h3, hm]; exact List.mem_cons_self)
      · exact .inr (List.mem_cons_of_mem _ h3)
theorem max_le1 {l : List Int} (hl : ∀ v ∈ l, 0 ≤ v) : decide (l.foldl mx 0 ≤ 1) = true ↔ ∀ v ∈ l, v ≤ 1 := by
  obtain ⟨h1, h2, h3⟩ := foldl_mx l 0
  rw [decide_eq_true_iff]
  constructor
  · intro h v hv; have := h2 v hv; omega
  · intro h
    rcases h3 with h3 | h3
    · omega
    · exact h _ h3
theorem sliceMax_eq (k : Nat) (l : List Int) (hl : ∀ v ∈ l, 0 ≤ v) (hne : 0 < l.length) : slices_Max_int_int.f k l = some (l.foldl mx 0) := by
  cases l with
  | nil => exact absurd hne (by simp)
  | cons x l =>
    have h0 := hl x List.mem_cons_self
    have : mx 0 x = x := by unfold mx; split <;> omega
    simp only [slices_Max_int_int.f, List.foldl_cons, this]
theorem mem_set {l : List Int} {i : Nat} {v x : Int} (h : x ∈ l.set i v) : x = v ∨ x ∈ l := by
  rcases List.mem_or_eq_of_mem_set h with h | h
  · exact .inr h
  · exact .inl h
theorem implYard_l0 {a b c : List Int} {d e : Int} (F : Fleet a b c d e) (tr : List S80) (ht : tr.length ≤ 8) (ws : List (List Int)) (hws : ws.length = a.length) (ln : List Int) (ti du id_ : Int) : ∀ (m i : Nat), i + m = tr.length → ∀ (ld : List Int) (dm : Int), ld.length = a.length → (∀ v ∈ ld, 0 ≤ v ∧ v ≤ (i : Int)) → 0 ≤ dm → dm ≤ (i : Int) → ∃ K, ∀ k, K ≤ k → impl_IsYard.l0 k ld dm tr (tr.length : Int) (i : Int) a b c d e tr ws ln ti du id_ = some (imT a b c d (goodAll tr ws ln) (tr.drop i) ld dm) := by
  have hn := F.n
  intro m
  induction m with
  | zero =>
    intro i hi ld dm hld hv h0 h1
    refine ev_suc 0 fun k _ => ?_
    simp only [impl_IsYard.l0]
    rw [if_neg (by omega), List.drop_of_length_le (by omega), sliceMax_eq k ld (fun v h => (hv v h).1) (by omega)]
    have hg : tr.length ≤ 1048576 := by omega
    simp only [Option.bind_some, imT, impl_goodLines.f, hg, if_true]
    by_cases g1 : ld.foldl mx 0 ≤ 1
    · rw [if_pos g1, decide_eq_true g1, Bool.true_and]
      by_cases g2 : dm ≤ 1
      · rw [if_pos g2, decide_eq_true g2]; rfl
      · rw [if_neg g2, decide_eq_false g2]; rfl
    · rw [if_neg g1, decide_eq_false g1]; rfl
  | succ m ih =>
    intro i hi ld dm hld hv h0 h1
    have hi2 : i < tr.length := by omega
    obtain ⟨t, hte⟩ : ∃ t, t = tr[i] := ⟨_, rfl⟩
    have hrt : rd_T80 tr (i : Int) = t := by rw [rdT_nat tr i hi2, hte]
    rw [List.drop_eq_getElem_cons hi2, ← hte]
    simp only [imT]
    have stop : ∀ k x y z, impl_IsYard.j2 (k + 1) ld dm tr (tr.length : Int) (i : Int) true a b c d e tr ws ln ti du id_ x y z = some false := fun k x y z => by simp only [impl_IsYard.j2, if_true]
    have pre : ∀ k, impl_IsYard.l0 (k + 1 + 1) ld dm tr (tr.length : Int) (i : Int) a b c d e tr ws ln ti du id_ = if (inr 0 5 t.f0 && inr 0 ((a.length : Int) - 1) t.f1) = true then impl_IsYard.j2 (k + 1) ld dm tr (tr.length : Int) (i : Int) false a b c d e tr ws ln ti du id_ t.f0 t.f1 t.f2 else some false := by
      intro k
      have e0 : impl_IsYard.l0 (k + 1 + 1) ld dm tr (tr.length : Int) (i : Int) a b c d e tr ws ln ti du id_ = (if t.f0 < 0 then some false else if t.f0 > 5 then some false else if t.f1 < 0 then some false else impl_IsYard.j2 (k + 1) ld dm tr (tr.length : Int) (i : Int) (decide (t.f1 ≥ (ws.length : Int))) a b c d e tr ws ln ti du id_ t.f0 t.f1 t.f2) := by
        conv => lhs; rw [impl_IsYard.l0]
        rw [if_pos (by omega), if_pos (by omega), if_pos (by omega), hrt, stop]
      rw [e0]
      by_cases g1 : inr 0 5 t.f0 = true
      · have g1' := (inr_iff _ _ _).1 g1
        rw [if_neg (by omega), if_neg (by omega), g1, Bool.true_and]
        by_cases g2 : inr 0 ((a.length : Int) - 1) t.f1 = true
        · have g2' := (inr_iff _ _ _).1 g2
          rw [if_neg (by omega), if_pos g2, decide_eq_false (by omega)]
        · have g2' := (inr_false _ _ _).1 (Bool.eq_false_iff.mpr g2)
          rw [if_neg g2]
          by_cases g3 : t.f1 < 0
          · rw [if_pos g3]
          · rw [if_neg g3, decide_eq_true (by omega), stop]
      · have g1' := (inr_false _ _ _).1 (Bool.eq_false_iff.mpr g1)
        rw [Bool.eq_false_iff.mpr g1, Bool.false_and, if_neg (show ¬ (false = true) by simp)]
        by_cases g3 : t.f0 < 0
        · rw [if_pos g3]
        · rw [if_neg g3, if_pos (by omega)]
    by_cases g12 : (inr 0 5 t.f0 && inr 0 ((a.length : Int) - 1) t.f1) = true
    · have g12' := g12
      rw [Bool.and_eq_true, inr_iff, inr_iff] at g12'
      obtain ⟨g1, g2⟩ := g12'
      have htm := time_bounds F g2.1 (show t.f1 < (a.length : Int) by omega) t.f0
      have hokT : okT a b c d t = inr (lsOf (timeOf a b c d t.f0 t.f1)) (timeOf a b c d t.f0 t.f1) t.f2 := by
        unfold okT
        rw [← Bool.and_assoc, g12, Bool.true_and]
      rw [hokT]
      have hmn : mn 1 (timeOf a b c d t.f0 t.f1) = lsOf (timeOf a b c d t.f0 t.f1) := rfl
      have pre2 : ∀ k, impl_IsYard.j2 (k + 1) ld dm tr (tr.length : Int) (i : Int) false a b c d e tr ws ln ti du id_ t.f0 t.f1 t.f2 = if t.f2 < lsOf (timeOf a b c d t.f0 t.f1) then impl_IsYard.j3 k ld dm tr (tr.length : Int) (i : Int) true a b c d e tr ws ln ti du id_ t.f0 t.f1 t.f2 else impl_IsYard.j3 k ld dm tr (tr.length : Int) (i : Int) (decide (t.f2 > timeOf a b c d t.f0 t.f1)) a b c d e tr ws ln ti du id_ t.f0 t.f1 t.f2 := by
        intro k
        conv => lhs; rw [impl_IsYard.j2]
        rw [if_neg (by simp), stateTime_eq F g2.1 (by omega)]
        simp only [Option.bind_some]
        rw [hmn]
      have stop3 : ∀ k, impl_IsYard.j3 (k + 1) ld dm tr (tr.length : Int) (i : Int) true a b c d e tr ws ln ti du id_ t.f0 t.f1 t.f2 = some false := fun k => by simp only [impl_IsYard.j3, if_true]
      by_cases g3 : inr (lsOf (timeOf a b c d t.f0 t.f1)) (timeOf a b c d t.f0 t.f1) t.f2 = true
      · have g3' := (inr_iff _ _ _).1 g3
        rw [g3, Bool.true_and]
        obtain ⟨s, hs⟩ := Int.eq_ofNat_of_zero_le g2.1
        have hsl : s < ld.length := by omega
        have hrs : rd ld t.f1 = ld[s] := by rw [hs, rd_nat ld s hsl]
        have hvs := hv _ (List.getElem_mem hsl)
        have hld2 : ∀ v ∈ (if t.f0 = 1 then ld.set t.f1.toNat (rd ld t.f1 + 1) else ld), 0 ≤ v ∧ v ≤ ((i + 1 : Nat) : Int) := by
          intro v hvv
          split at hvv
          · rcases mem_set hvv with h | h
            · rw [hrs] at h; omega
            · have := hv v h; omega
          · have := hv v hvv; omega
        obtain ⟨K, hK⟩ := ih (i + 1) (by omega) (if t.f0 = 1 then ld.set t.f1.toNat (rd ld t.f1 + 1) else ld) (if t.f0 = 4 then dm + 1 else dm) (by split <;> simp [hld]) hld2 (by split <;> omega) (by split <;> omega)
        refine ⟨K + 4, fun k hk => ?_⟩
        obtain ⟨k, rfl⟩ : ∃ m, k = m + 1 + 1 + 1 := ⟨k - 3, by omega⟩
        have hK := hK k (by omega)
        rw [pre, if_pos g12, pre2, if_neg (by omega), decide_eq_false (by omega)]
        conv => lhs; rw [impl_IsYard.j3]
        rw [if_neg (by simp), w64s (by omega), w64 (x := dm + 1) (by omega) (by omega)]
        by_cases p1 : t.f0 = 1
        · have p4 : ¬ t.f0 = 4 := by omega
          rw [if_pos p1, if_neg p4] at hK
          rw [if_pos p1, if_pos g2.1, if_pos (by omega), w64 (x := rd ld t.f1 + 1) (by rw [hrs]; omega) (by rw [hrs]; omega)]
          simp only [Option.bind_some]
          rw [if_neg p4, if_pos p1, if_neg p4]
          exact hK
        · rw [if_neg p1] at hK
          rw [if_neg p1, if_neg p1]
          by_cases p4 : t.f0 = 4
          · rw [if_pos p4] at hK
            rw [if_pos p4, if_pos p4]
            exact hK
          · rw [if_neg p4] at hK
            rw [if_neg p4, if_neg p4]
            exact hK
      · have g3' := (inr_false _ _ _).1 (Bool.eq_false_iff.mpr g3)
        refine ⟨4, fun k hk => ?_⟩
        obtain ⟨k, rfl⟩ : ∃ m, k = m + 1 + 1 + 1 := ⟨k - 3, by omega⟩
        rw [pre, if_pos g12, pre2, Bool.eq_false_iff.mpr g3, Bool.false_and]
        by_cases g4 : t.f2 < lsOf (timeOf a b c d t.f0 t.f1)
        · rw [if_pos g4, stop3]
        · rw [if_neg g4, decide_eq_true (by omega), stop3]
    · have hokT : okT a b c d t = false := by
        unfold okT
        rw [← Bool.and_assoc, Bool.eq_false_iff.mpr g12, Bool.false_and]
      refine ⟨2, fun k hk => ?_⟩
      obtain ⟨k, rfl⟩ : ∃ m, k = m + 1 + 1 := ⟨k - 2, by omega⟩
      rw [pre, if_neg g12, hokT, Bool.false_and]
def implOk (a b c : List Int) (d e : Int) (tr : List S80) (ws : List (List Int)) (ln : List Int) (ti du id_ : Int) : Bool :=
  fleetOk a b c d e && (inr 1 8 (tr.length : Int) && (decide (ws.length = a.length) && (inr 0 100000 ti && (inr 0 100000 du && (inr 0 ti id_ && imT a b c d (goodAll tr ws ln) tr (List.replicate a.length 0) 0)))))
theorem implIsYard_ev (a b c : List Int) (d e : Int) (ha : a.length ≤ 1048576) (hb : b.length ≤ 1048576) (hc : c.length ≤ 1048576) (tr : List S80) (ws : List (List Int)) (ln : List Int) (ti du id_ : Int) : ∃ K, ∀ k, K ≤ k → impl_IsYard.f k a b c d e tr ws ln ti du id_ = some (implOk a b c d e tr ws ln ti du id_) := by
  obtain ⟨K1, h1⟩ := implIsFleet_ev a b c d e ha hb hc
  have stop : ∀ k, impl_IsYard.j0 (k + 1) true a b c d e tr ws ln ti du id_ = some false := fun k => by simp only [impl_IsYard.j0, if_true]
  unfold implOk
  by_cases gF : fleetOk a b c d e = true
  · have F := (fleetOk_iff _ _ _ _ _).1 gF
    have hn := F.n
    by_cases gall : (inr 1 8 (tr.length : Int) && (decide (ws.length = a.length) && (inr 0 100000 ti && (inr 0 100000 du && inr 0 ti id_)))) = true
    · have gall' := gall
      simp only [Bool.and_eq_true, inr_iff, decide_eq_true_eq] at gall'
      obtain ⟨q1, q2, q3, q4, q5⟩ := gall'
      obtain ⟨K2, h2⟩ := implYard_l0 F tr (by omega) ws q2 ln ti du id_ tr.length 0 (by omega) (List.replicate a.length 0) 0 (by simp) (fun v hv => by rw [List.mem_replicate] at hv; omega) (by omega) (by omega)
      refine ⟨K1 + K2 + 1, fun k hk => ?_⟩
      obtain ⟨k, rfl⟩ : ∃ m, k = m + 1 := ⟨k - 1, by omega⟩
      have h2 := h2 k (by omega)
      unfold impl_IsYard.f
      rw [h1 _ (by omega), gF]
      simp only [Option.bind_some, if_true, Bool.true_and]
      rw [if_neg (by omega), if_neg (by omega), if_pos (by omega), if_neg (by omega), if_neg (by omega), if_neg (by omega), if_neg (by omega), if_neg (by omega), decide_eq_false (by omega)]
      simp only [impl_IsYard.j0]
      rw [if_neg (by simp), if_pos (by omega), if_pos (by omega), Int.toNat_natCast, q2]
      rw [(inr_iff _ _ _).2 q1, (inr_iff _ _ _).2 q3, (inr_iff _ _ _).2 q4, (inr_iff _ _ _).2 q5]
      simpa using h2
    · refine ⟨K1 + 1, fun k hk => ?_⟩
      obtain ⟨k, rfl⟩ : ∃ m, k = m + 1 := ⟨k - 1, by omega⟩
      have hfalse : (inr 1 8 (tr.length : Int) && (decide (ws.length = a.length) && (inr 0 100000 ti && (inr 0 100000 du && (inr 0 ti id_ && imT a b c d (goodAll tr ws ln) tr (List.replicate a.length 0) 0))))) = false := by
        rw [Bool.eq_false_iff]
        intro h
        simp only [Bool.and_eq_true] at h
        obtain ⟨p1, p2, p3, p4, p5, _⟩ := h
        exact gall (by simp only [Bool.and_eq_true]; exact ⟨p1, p2, p3, p4, p5⟩)
      rw [hfalse, gF]
      simp only [Bool.and_eq_true, inr_iff, decide_eq_true_eq] at gall
      unfold impl_IsYard.f
      rw [h1 _ (by omega), gF]
      simp only [Option.bind_some, if_true, Bool.and_false, stop]
      by_cases c1 : (tr.length : Int) < 1
      · rw [if_pos c1]
      · rw [if_neg c1]
        by_cases c2 : (tr.length : Int) > 8
        · rw [if_pos c2]
        · rw [if_neg c2]
          by_cases c3 : (ws.length : Int) = (a.length : Int)
          · rw [if_pos c3]
            by_cases c4 : ti < 0
            · rw [if_pos c4]
            · rw [if_neg c4]
              by_cases c5 : ti > 100000
              · rw [if_pos c5]
              · rw [if_neg c5]
                by_cases c6 : du < 0
                · rw [if_pos c6]
                · rw [if_neg c6]
                  by_cases c7 : du > 100000
                  · rw [if_pos c7]
                  · rw [if_neg c7]
                    by_cases c8 : id_ < 0
                    · rw [if_pos c8]
                    · rw [if_neg c8, decide_eq_true (show id_ > ti by omega), stop]
          · rw [if_neg c3]
  · refine ⟨K1 + 1, fun k hk => ?_⟩
    obtain ⟨k, rfl⟩ : ∃ m, k = m + 1 := ⟨k - 1, by omega⟩
    unfold impl_IsYard.f
    rw [h1 _ (by omega), Bool.eq_false_iff.mpr gF]
    simp only [Option.bind_some, Bool.false_eq_true, if_false, stop, Bool.false_and]
/-! The two ways of looking at the lists tell the same. -/
theorem getD_set {sn : List Bool} {a b : Nat} (ha : a < sn.length) : (sn.set a true).getD b false = if a = b then true else sn.getD b false := by
  simp only [List.getD_eq_getElem?_getD, List.getElem?_set]
  by_cases h : a = b
  · rw [if_pos h, if_pos h, if_pos ha]; rfl
  · rw [if_neg h, if_neg h]
def Mt (tr : List S80) (st sh i : Int) : Prop := 0 ≤ i ∧ i < (tr.length : Int) ∧ isM (rd_T80 tr i) st sh = true
theorem goodM_iff (tr : List S80) (sn : List Bool) (hs : sn.length = tr.length) (i st sh : Int) : goodM tr sn i st sh = true ↔ Mt tr st sh i ∧ sn.getD i.toNat false = false := by
  unfold goodM Mt isM
  simp only [Bool.and_eq_true, Bool.or_eq_true, decide_eq_true_eq, Bool.not_eq_true', decide_eq_false_iff_not, beq_iff_eq]
  rw [hs]
  constructor
  · rintro ⟨h1, h2, h3, h4, h5⟩
    exact ⟨⟨h1, h2, h4, h5.imp (fun h => by omega) id⟩, h3⟩
  · rintro ⟨⟨h1, h2, h4, h5⟩, h3⟩
    exact ⟨h1, h2, h3, h4, h5.imp (fun h => by omega) id⟩
theorem goodLn_spec (tr : List S80) (st sh : Int) : ∀ (l : List Int) (sn : List Bool), sn.length = tr.length → (∃ sn', goodLn tr st sh l sn = some sn' ∧ sn'.length = tr.length ∧ (∀ j : Nat, j < tr.length → (sn'.getD j false = true ↔ sn.getD j false = true ∨ (j : Int) ∈ l)) ∧ l.Nodup ∧ ∀ i ∈ l, Mt tr st sh i ∧ sn.getD i.toNat false = false) ∨ (goodLn tr st sh l sn = none ∧ ¬ (l.Nodup ∧ ∀ i ∈ l, Mt tr st sh i ∧ sn.getD i.toNat false = false)) := by
  intro l
  induction l with
  | nil => intro sn hs; exact .inl ⟨sn, rfl, hs, fun j _ => by simp, List.nodup_nil, fun i hi => by cases hi⟩
  | cons i l ih =>
    intro sn hs
    simp only [goodLn]
    have hg := goodM_iff tr sn hs i st sh
    by_cases g : goodM tr sn i st sh = true
    · rw [if_pos g]
      obtain ⟨⟨m0, m1, m2⟩, hf⟩ := hg.1 g
      have hlt : i.toNat < sn.length := by omega
      have hset := fun b => getD_set (sn := sn) (a := i.toNat) (b := b) hlt
      rcases ih (sn.set i.toNat true) (by rw [List.length_set]; exact hs) with ⟨sn', h1, h2, h3, h4, h5⟩ | ⟨h1, h2⟩
      · left
        refine ⟨sn', h1, h2, fun j hj => ?_, ?_, fun x hx => ?_⟩
        · rw [h3 j hj, hset, List.mem_cons]
          by_cases e : i.toNat = j
          · rw [if_pos e]
            exact ⟨fun _ => .inr (.inl (by omega)), fun _ => .inl rfl⟩
          · rw [if_neg e]
            constructor
            · rintro (h | h)
              · exact .inl h
              · exact .inr (.inr h)
            · rintro (h | h | h)
              · exact .inl h
              · omega
              · exact .inr h
        · refine List.nodup_cons.2 ⟨fun hx => ?_, h4⟩
          have := (h5 i hx).2
          rw [hset, if_pos rfl] at this
          cases this
        · rcases List.mem_cons.1 hx with rfl | hx
          · exact ⟨⟨m0, m1, m2⟩, hf⟩
          · obtain ⟨q1, q2⟩ := h5 x hx
            rw [hset] at q2
            by_cases e : i.toNat = x.toNat
            · rw [if_pos e] at q2; cases q2
            · rw [if_neg e] at q2; exact ⟨q1, q2⟩
      · right
        refine ⟨h1, fun ⟨p1, p2⟩ => h2 ⟨(List.nodup_cons.1 p1).2, fun x hx => ?_⟩⟩
        obtain ⟨q1, q2⟩ := p2 x (List.mem_cons_of_mem _ hx)
        refine ⟨q1, ?_⟩
        rw [hset, if_neg]
        · exact q2
        · intro e
          have h0 := q1.1
          obtain rfl : i = x := by omega
          exact (List.nodup_cons.1 p1).1 hx
    · rw [if_neg g]
      right
      exact ⟨rfl, fun ⟨_, p2⟩ => g (hg.2 (p2 i List.mem_cons_self))⟩
theorem goodWs_spec (tr : List S80) : ∀ (ws : List (List Int)) (s : Nat) (sn : List Bool), sn.length = tr.length → (∃ sn', goodWs tr s ws sn = some sn' ∧ sn'.length = tr.length ∧ (∀ j : Nat, j < tr.length → (sn'.getD j false = true ↔ sn.getD j false = true ∨ ∃ k, k < ws.length ∧ (j : Int) ∈ ws.getD k [])) ∧ ∀ k, k < ws.length → (ws.getD k []).Nodup ∧ ∀ i ∈ ws.getD k [], Mt tr 0 ((s + k : Nat) : Int) i ∧ sn.getD i.toNat false = false) ∨ (goodWs tr s ws sn = none ∧ ¬ ∀ k, k < ws.length → (ws.getD k []).Nodup ∧ ∀ i ∈ ws.getD k [], Mt tr 0 ((s + k : Nat) : Int) i ∧ sn.getD i.toNat false = false) := by
  intro ws
  induction ws with
  | nil => intro s sn hs; exact .inl ⟨sn, rfl, hs, fun j _ => by simp, fun k hk => by simp at hk⟩
  | cons l ls ih =>
    intro s sn hs
    have g0 : (l :: ls).getD 0 [] = l := rfl
    have gS : ∀ k, (l :: ls).getD (k + 1) [] = ls.getD k [] := fun k => rfl
    simp only [goodWs]
    rcases goodLn_spec tr 0 (s : Int) l sn hs with ⟨sn1, a1, a2, a3, a4, a5⟩ | ⟨a1, a2⟩
    · rw [a1]
      simp only [Option.bind_some]
      rcases ih (s + 1) sn1 a2 with ⟨sn2, b1, b2, b3, b4⟩ | ⟨b1, b2⟩
      · left
        refine ⟨sn2, b1, b2, fun j hj => ?_, fun k hk => ?_⟩
        · rw [b3 j hj, a3 j hj]
          constructor
          · rintro ((h | h) | ⟨k, hk, h⟩)
            · exact .inl h
            · exact .inr ⟨0, by simp, h⟩
            · exact .inr ⟨k + 1, by simp; omega, h⟩
          · rintro (h | ⟨k, hk, h⟩)
            · exact .inl (.inl h)
            · cases k with
              | zero => exact .inl (.inr h)
              | succ k => exact .inr ⟨k, by simpa using hk, h⟩
        · cases k with
          | zero => exact ⟨a4, a5⟩
          | succ k =>
            obtain ⟨q1, q2⟩ := b4 k (by simpa using hk)
            refine ⟨q1, fun i hi => ?_⟩
            obtain ⟨m, f⟩ := q2 i hi
            rw [show s + 1 + k = s + (k + 1) from by omega] at m
            refine ⟨m, ?_⟩
            cases e : sn.getD i.toNat false with
            | false => rfl
            | true =>
              have := (a3 i.toNat (by have := m.2.1; have := m.1; omega)).2 (.inl e)
              rw [f] at this
              cases this
      · right
        refine ⟨b1, fun h => b2 fun k hk => ?_⟩
        obtain ⟨q1, q2⟩ := h (k + 1) (by simp; omega)
        refine ⟨q1, fun i hi => ?_⟩
        obtain ⟨m, f⟩ := q2 i hi
        refine ⟨by rw [show s + 1 + k = s + (k + 1) from by omega]; exact m, ?_⟩
        have hi0 := m.1
        have hi1 := m.2.1
        cases e : sn1.getD i.toNat false with
        | false => rfl
        | true =>
          exfalso
          rcases (a3 i.toNat (by omega)).1 e with h | h
          · rw [f] at h; cases h
          · rw [show ((i.toNat : Nat) : Int) = i from by omega] at h
            have k1 := (a5 i h).1.2.2
            have k2 := m.2.2
            unfold isM at k1 k2
            simp only [Bool.and_eq_true, Bool.or_eq_true, decide_eq_true_eq, beq_iff_eq] at k1 k2
            omega
    · rw [a1]
      right
      exact ⟨rfl, fun h => a2 (h 0 (by simp))⟩
theorem goodTr_iff (sn : List Bool) : ∀ (ts : List S80) (i : Nat), goodTr i ts sn = true ↔ ∀ m, (h : m < ts.length) → ((((ts[m]).f0 == 0) || ((ts[m]).f0 == 3)) = sn.getD (i + m) false)
  | [], i => by simp [goodTr]
  | t :: ts, i => by
    simp only [goodTr, Bool.and_eq_true, beq_iff_eq, goodTr_iff sn ts (i + 1)]
    constructor
    · rintro ⟨h1, h2⟩ m hm
      cases m with
      | zero => exact h1
      | succ m => rw [show i + (m + 1) = i + 1 + m from by omega]; exact h2 m (by simpa using hm)
    · intro h
      exact ⟨h 0 (by simp), fun m hm => by rw [show i + 1 + m = i + (m + 1) from by omega]; exact h (m + 1) (by simpa using hm)⟩
theorem exact_perm : ∀ (M l : List Int), M.Nodup → ((∀ x ∈ M, x ∈ l) ∧ M.length = l.length ↔ l.Nodup ∧ (∀ x ∈ l, x ∈ M) ∧ ∀ x ∈ M, x ∈ l) := by
  have fwd : ∀ (M l : List Int), M.Nodup → (∀ x ∈ M, x ∈ l) → M.length = l.length → l.Nodup ∧ ∀ x ∈ l, x ∈ M := by
    intro M
    induction M with
    | nil =>
      intro l _ _ h
      obtain rfl := List.length_eq_zero_iff.1 h.symm
      exact ⟨List.nodup_nil, fun x hx => hx⟩
    | cons y M ih =>
      intro l h1 h2 h3
      rw [List.nodup_cons] at h1
      have hy := h2 y List.mem_cons_self
      obtain ⟨q1, q2⟩ := ih (l.erase y) h1.2 (fun x hx => (List.mem_erase_of_ne (fun e : x = y => h1.1 (e ▸ hx))).2 (h2 x (List.mem_cons_of_mem _ hx))) (by rw [List.length_erase_of_mem hy]; simp at h3; omega)
      have hp := List.perm_cons_erase hy
      refine ⟨hp.nodup_iff.2 (List.nodup_cons.2 ⟨fun h => h1.1 (q2 y h), q1⟩), fun x hx => ?_⟩
      rcases List.mem_cons.1 (hp.mem_iff.1 hx) with rfl | hx
      · exact List.mem_cons_self
      · exact List.mem_cons_of_mem _ (q2 x hx)
  have len : ∀ (l p : List Int), l.Nodup → (∀ x ∈ l, x ∈ p) → l.length ≤ p.length := by
    intro l
    induction l with
    | nil => intro p _ _; simp
    | cons x l ih =>
      intro p h1 h2
      rw [List.nodup_cons] at h1
      have hx := h2 x (List.mem_cons_self)
      have h3 := ih (p.erase x) h1.2 (fun y hy => (List.mem_erase_of_ne (fun e : y = x => h1.1 (by rw [← e]; exact hy))).2 (h2 y (List.mem_cons_of_mem _ hy)))
      rw [List.length_erase_of_mem hx] at h3
      have := List.length_pos_of_mem hx
      rw [List.length_cons]
      omega
  intro M l hM
  constructor
  · rintro ⟨h1, h2⟩
    obtain ⟨q1, q2⟩ := fwd M l hM h1 h2
    exact ⟨q1, q2, h1⟩
  · rintro ⟨h1, h2, h3⟩
    exact ⟨h3, Nat.le_antisymm (len M l hM h3) (len l M h1 h2)⟩
theorem flL_iff (tr : List S80) (l : List Int) (st sh : Int) : flL tr l st sh = true ↔ l.Nodup ∧ (∀ i ∈ l, Mt tr st sh i) ∧ ∀ i, Mt tr st sh i → i ∈ l := by
  obtain ⟨M, hM⟩ : ∃ M : List Int, M = (mOf tr st sh tr.length).map fun (j : Nat) => (j : Int) := ⟨_, rfl⟩
  have hmem : ∀ i : Int, i ∈ M ↔ Mt tr st sh i := by
    intro i
    rw [hM, List.mem_map]
    constructor
    · rintro ⟨j, hj, rfl⟩
      unfold mOf at hj
      rw [List.mem_filter, List.mem_range] at hj
      exact ⟨by omega, by omega, hj.2⟩
    · rintro ⟨h1, h2, h3⟩
      refine ⟨i.toNat, ?_, by omega⟩
      unfold mOf
      rw [List.mem_filter, List.mem_range]
      refine ⟨by omega, ?_⟩
      unfold pm
      rw [show ((i.toNat : Nat) : Int) = i from by omega]
      exact h3
  have hnd : M.Nodup := by
    rw [hM, List.Nodup, List.pairwise_map]
    unfold mOf
    refine List.Pairwise.imp ?_ (List.Pairwise.filter (pm tr st sh) (List.pairwise_lt_range (n := tr.length)))
    intro x y hxy
    omega
  have hlen : M.length = (mOf tr st sh tr.length).length := by rw [hM, List.length_map]
  have hp := exact_perm M l hnd
  have hall : allM tr l st sh 0 = true ↔ ∀ x ∈ M, x ∈ l := by
    unfold allM
    rw [List.drop_zero, List.all_eq_true]
    constructor
    · intro h x hx
      obtain ⟨h1, h2, h3⟩ := (hmem x).1 hx
      have := h x.toNat (List.mem_range.2 (by omega))
      unfold pm at this
      rw [show ((x.toNat : Nat) : Int) = x from by omega, h3] at this
      simpa using this
    · intro h j hj
      rw [List.mem_range] at hj
      by_cases g : pm tr st sh j = true
      · rw [g, decide_eq_true (h _ ((hmem _).2 ⟨by omega, by omega, g⟩))]; rfl
      · rw [Bool.eq_false_iff.mpr g]; rfl
  unfold flL
  rw [Bool.and_eq_true, hall, decide_eq_true_iff, ← hlen, hp]
  constructor
  · rintro ⟨h1, h2, h3⟩
    exact ⟨h1, fun i hi => (hmem i).1 (h2 i hi), fun i hi => h3 i ((hmem i).2 hi)⟩
  · rintro ⟨h1, h2, h3⟩
    exact ⟨h1, fun i hi => (hmem i).2 (h2 i hi), fun i hi => h3 i ((hmem i).1 hi)⟩
theorem isM_iff (t : S80) (st sh : Int) : isM t st sh = true ↔ t.f0 = st ∧ (sh < 0 ∨ t.f1 = sh) := by
  unfold isM
  simp only [Bool.and_eq_true, Bool.or_eq_true, decide_eq_true_eq, beq_iff_eq]
theorem lists_eq (tr : List S80) (ws : List (List Int)) (ln : List Int) (hsh : ∀ t ∈ tr, 0 ≤ t.f1 ∧ t.f1 < (ws.length : Int)) : goodAll tr ws ln = listsOk tr ws ln := by
  have hall : ∀ k, k < ws.length → ((((List.range ws.length).all fun s => flL tr (ws.getD s []) 0 (s : Int)) = true) → flL tr (ws.getD k []) 0 (k : Int) = true) := fun k hk h => (List.all_eq_true.1 h) k (List.mem_range.2 hk)
  have hrep : ∀ j, (List.replicate tr.length false).getD j false = false := fun j => by
    simp only [List.getD_eq_getElem?_getD, List.getElem?_replicate]
    split <;> rfl
  have hrd : ∀ j : Nat, (h : j < tr.length) → rd_T80 tr (j : Int) = tr[j] := fun j h => rdT_nat tr j h
  rw [Bool.eq_iff_iff]
  unfold goodAll listsOk
  rw [Bool.and_eq_true]
  rcases goodWs_spec tr ws 0 (List.replicate tr.length false) (by simp) with ⟨sn1, a1, a2, a3, a4⟩ | ⟨a1, a2⟩
  · rw [a1]
    simp only [Option.bind_some]
    rcases goodLn_spec tr 3 (-1) ln sn1 a2 with ⟨sn2, b1, b2, b3, b4, b5⟩ | ⟨b1, b2⟩
    · rw [b1]
      simp only
      rw [goodTr_iff]
      have seen : ∀ j : Nat, j < tr.length → (sn2.getD j false = true ↔ (∃ k, k < ws.length ∧ (j : Int) ∈ ws.getD k []) ∨ (j : Int) ∈ ln) := by
        intro j hj
        rw [b3 j hj, a3 j hj, hrep]
        simp
      have inW : ∀ k, k < ws.length → ∀ i ∈ ws.getD k [], (rd_T80 tr i).f0 = 0 ∧ (rd_T80 tr i).f1 = (k : Int) := by
        intro k hk i hi
        have := (isM_iff _ _ _).1 ((a4 k hk).2 i hi).1.2.2
        rw [Nat.zero_add] at this
        omega
      have inL : ∀ i ∈ ln, (rd_T80 tr i).f0 = 3 := fun i hi => ((isM_iff _ _ _).1 (b5 i hi).1.2.2).1
      constructor
      · intro h
        have key : ∀ i, 0 ≤ i → i < (tr.length : Int) → ((rd_T80 tr i).f0 = 0 ∨ (rd_T80 tr i).f0 = 3) → (∃ k, k < ws.length ∧ i ∈ ws.getD k []) ∨ i ∈ ln := by
          intro i i0 i1 hf
          have hj : i.toNat < tr.length := by omega
          have h1 := h i.toNat hj
          rw [Nat.zero_add] at h1
          have h2 := hrd i.toNat hj
          rw [show ((i.toNat : Nat) : Int) = i from by omega] at h2
          rw [← h2] at h1
          have h3 : sn2.getD i.toNat false = true := by
            rw [← h1]
            rcases hf with q | q <;> rw [q] <;> rfl
          have h4 := (seen i.toNat hj).1 h3
          rw [Int.toNat_of_nonneg i0] at h4
          exact h4
        refine ⟨List.all_eq_true.2 fun k hk => ?_, ?_⟩
        · rw [List.mem_range] at hk
          refine (flL_iff _ _ _ _).2 ⟨(a4 k hk).1, fun i hi => by have := ((a4 k hk).2 i hi).1; rwa [Nat.zero_add] at this, fun i hm => ?_⟩
          obtain ⟨m0, m1, m2⟩ := hm
          have m2 := (isM_iff _ _ _).1 m2
          rcases key i m0 m1 (.inl m2.1) with ⟨k', hk', hi⟩ | hi
          · have := inW k' hk' i hi
            obtain rfl : k' = k := by omega
            exact hi
          · have := inL i hi; omega
        · refine (flL_iff _ _ _ _).2 ⟨b4, fun i hi => (b5 i hi).1, fun i hm => ?_⟩
          obtain ⟨m0, m1, m2⟩ := hm
          have m2 := (isM_iff _ _ _).1 m2
          rcases key i m0 m1 (.inr m2.1) with ⟨k', hk', hi⟩ | hi
          · have q1 := (inW k' hk' i hi).1
            have q2 := m2.1
            rw [q1] at q2
            exact absurd q2 (by decide)
          · exact hi
      · rintro ⟨h1, h2⟩ j hj
        rw [Nat.zero_add]
        have hr := hrd j hj
        rw [← hr]
        have hs := hsh _ (List.getElem_mem hj)
        rw [← hr] at hs
        by_cases g0 : (rd_T80 tr (j : Int)).f0 = 0
        · obtain ⟨k, hk⟩ := Int.eq_ofNat_of_zero_le hs.1
          have hkw : k < ws.length := by omega
          have hin := ((flL_iff _ _ _ _).1 (hall k hkw h1)).2.2 (j : Int) ⟨by omega, by omega, (isM_iff _ _ _).2 ⟨g0, .inr hk⟩⟩
          rw [(seen j hj).2 (.inl ⟨k, hkw, hin⟩), g0]; rfl
        · by_cases g3 : (rd_T80 tr (j : Int)).f0 = 3
          · have hin := ((flL_iff _ _ _ _).1 h2).2.2 (j : Int) ⟨by omega, by omega, (isM_iff _ _ _).2 ⟨g3, .inl (by omega)⟩⟩
            rw [(seen j hj).2 (.inr hin), g3]; rfl
          · have hns : sn2.getD j false = false := by
              rw [Bool.eq_false_iff]
              intro hs2
              rcases (seen j hj).1 hs2 with ⟨k, hk, hi⟩ | hi
              · exact g0 (inW k hk _ hi).1
              · exact g3 (inL _ hi)
            rw [hns]
            simp [g0, g3]
    · rw [b1]
      simp only [Bool.false_eq_true, false_iff]
      rintro ⟨h1, h2⟩
      refine b2 ⟨((flL_iff _ _ _ _).1 h2).1, fun i hi => ⟨((flL_iff _ _ _ _).1 h2).2.1 i hi, ?_⟩⟩
      obtain ⟨m0, m1, m2⟩ := ((flL_iff _ _ _ _).1 h2).2.1 i hi
      have m2 := (isM_iff _ _ _).1 m2
      have hlt : i.toNat < tr.length := by omega
      rw [Bool.eq_false_iff]
      intro hs
      rcases (a3 i.toNat hlt).1 hs with h | ⟨k, hk, hik⟩
      · rw [hrep] at h; cases h
      · rw [show ((i.toNat : Nat) : Int) = i from by omega] at hik
        have := (isM_iff _ _ _).1 ((a4 k hk).2 i hik).1.2.2
        omega
  · rw [a1]
    simp only [Option.bind_none, Bool.false_eq_true, false_iff]
    rintro ⟨h1, h2⟩
    refine a2 fun k hk => ?_
    have q := (flL_iff _ _ _ _).1 (hall k hk h1)
    exact ⟨q.1, fun i hi => ⟨by rw [Nat.zero_add]; exact q.2.1 i hi, hrep _⟩⟩
/-! Counts and places. -/
theorem imT_dup {a b c : List Int} {d : Int} {G : Bool} : ∀ (ts : List S80) (ld : List Int) (dm : Int), ld.length = a.length → (∀ v ∈ ld, 0 ≤ v) → ((∃ v ∈ ld, 2 ≤ v) ∨ 2 ≤ dm) → imT a b c d G ts ld dm = false
  | [], ld, dm, hl, h0, h => by
    simp only [imT]
    rcases h with ⟨v, hv, h2⟩ | h
    · have : decide (ld.foldl mx 0 ≤ 1) = false := by
        rw [Bool.eq_false_iff]
        intro h
        have := (max_le1 h0).1 h v hv
        omega
      rw [this]; rfl
    · rw [decide_eq_false (show ¬ dm ≤ 1 by omega), Bool.false_and, Bool.and_false]
  | t :: ts, ld, dm, hl, h0, h => by
    simp only [imT]
    by_cases g : okT a b c d t = true
    · rw [g, Bool.true_and]
      have g' := g
      unfold okT at g'
      rw [Bool.and_eq_true, Bool.and_eq_true, inr_iff, inr_iff] at g'
      obtain ⟨_, g2, _⟩ := g'
      obtain ⟨s, hs⟩ := Int.eq_ofNat_of_zero_le g2.1
      have hsl : s < ld.length := by omega
      have hrs : rd ld t.f1 = ld[s] := by rw [hs, rd_nat ld s hsl]
      have hvs := h0 _ (List.getElem_mem hsl)
      have hts : t.f1.toNat = s := by omega
      refine imT_dup ts _ _ (by split <;> simp [hl]) (fun v hv => ?_) ?_
      · split at hv
        · rcases mem_set hv with q | q
          · omega
          · exact h0 v q
        · exact h0 v hv
      · rcases h with ⟨v, hv, h2⟩ | h
        · left
          split
          · obtain ⟨m, hm, hmv⟩ := List.getElem_of_mem hv
            by_cases e : m = s
            · subst e
              refine ⟨rd ld t.f1 + 1, ?_, by omega⟩
              rw [hts]
              exact List.mem_set hsl _
            · refine ⟨v, ?_, h2⟩
              rw [hts, ← hmv]
              have : (ld.set s (rd ld t.f1 + 1))[m]'(by simpa using hm) = ld[m] := by rw [List.getElem_set]; rw [if_neg (fun q => e q.symm)]
              rw [← this]
              exact List.getElem_mem _
          · exact ⟨v, hv, h2⟩
        · right
          split <;> omega
    · rw [Bool.eq_false_iff.mpr g, Bool.false_and]
theorem imT_eq {a b c : List Int} {d e : Int} (F : Fleet a b c d e) {G : Bool} : ∀ (ts : List S80) (ld : List Int) (dm : Int) (bs : List Int), ld.length = a.length → (∀ s : Nat, (h : s < ld.length) → ld[s] = if (s : Int) ∈ bs then 1 else 0) → dm = (if (9 : Int) ∈ bs then 1 else 0) → imT a b c d G ts ld dm = (spT a b c d ts bs && G)
  | [], ld, dm, bs, hl, h1, h2 => by
    have h0 : ∀ v ∈ ld, 0 ≤ v ∧ v ≤ 1 := fun v hv => by
      obtain ⟨m, hm, rfl⟩ := List.getElem_of_mem hv
      rw [h1 m hm]; split <;> omega
    simp only [imT, spT]
    rw [(max_le1 (fun v hv => (h0 v hv).1)).2 (fun v hv => (h0 v hv).2), decide_eq_true (show dm ≤ 1 by rw [h2]; split <;> omega)]
    rfl
  | t :: ts, ld, dm, bs, hl, h1, h2 => by
    have hn := F.n
    have h0 : ∀ v ∈ ld, 0 ≤ v ∧ v ≤ 1 := fun v hv => by
      obtain ⟨m, hm, rfl⟩ := List.getElem_of_mem hv
      rw [h1 m hm]; split <;> omega
    simp only [imT, spT]
    by_cases g : okT a b c d t = true
    · rw [g, Bool.true_and, Bool.true_and]
      have g' := g
      unfold okT at g'
      rw [Bool.and_eq_true, Bool.and_eq_true, inr_iff, inr_iff] at g'
      obtain ⟨_, g2, _⟩ := g'
      obtain ⟨s, hs⟩ := Int.eq_ofNat_of_zero_le g2.1
      have hsl : s < ld.length := by omega
      have hrs : rd ld t.f1 = ld[s] := by rw [hs, rd_nat ld s hsl]
      have hts : t.f1.toNat = s := by omega
      by_cases p1 : t.f0 = 1
      · have p4 : ¬ t.f0 = 4 := by omega
        have hp : placeOf t = (s : Int) := by unfold placeOf; rw [if_pos p1, hs]
        rw [if_pos p1, if_neg p4, hp, decide_eq_true (show (0 : Int) ≤ (s : Int) by omega), Bool.true_and, hts, hrs, h1 s hsl]
        by_cases q : (s : Int) ∈ bs
        · rw [decide_eq_true q, if_pos q]
          simp only [Bool.not_true, Bool.false_and]
          exact imT_dup ts _ _ (by simp [hl]) (fun v hv => by
            rcases mem_set hv with r | r
            · omega
            · exact (h0 v r).1) (.inl ⟨1 + 1, List.mem_set hsl _, by omega⟩)
        · rw [decide_eq_false q, if_neg q]
          simp only [Bool.not_false, Bool.true_and]
          refine imT_eq F ts _ _ (bs ++ [(s : Int)]) (by simp [hl]) (fun m hm => ?_) ?_
          · rw [List.getElem_set]
            by_cases em : s = m
            · rw [if_pos em, if_pos (List.mem_append.2 (.inr (by rw [em]; exact List.mem_singleton.2 rfl)))]; rfl
            · rw [if_neg em, h1 m (by simpa using hm)]
              by_cases r : (m : Int) ∈ bs
              · rw [if_pos r, if_pos (List.mem_append.2 (.inl r))]
              · rw [if_neg r, if_neg]
                rw [List.mem_append, List.mem_singleton]
                intro hh
                rcases hh with hh | hh
                · exact r hh
                · omega
          · rw [h2]
            by_cases r : (9 : Int) ∈ bs
            · rw [if_pos r, if_pos (List.mem_append.2 (.inl r))]
            · rw [if_neg r, if_neg]
              rw [List.mem_append, List.mem_singleton]
              intro hh
              rcases hh with hh | hh
              · exact r hh
              · omega
      · rw [if_neg p1]
        by_cases p4 : t.f0 = 4
        · have hp : placeOf t = 9 := by unfold placeOf; rw [if_neg p1, if_pos p4]
          rw [if_pos p4, hp, decide_eq_true (show (0 : Int) ≤ 9 by omega), Bool.true_and]
          by_cases q : (9 : Int) ∈ bs
          · rw [decide_eq_true q]
            simp only [Bool.not_true, Bool.false_and]
            exact imT_dup ts _ _ hl (fun v hv => (h0 v hv).1) (.inr (by rw [h2, if_pos q]; omega))
          · rw [decide_eq_false q]
            simp only [Bool.not_false, Bool.true_and]
            refine imT_eq F ts _ _ (bs ++ [9]) hl (fun m hm => ?_) ?_
            · rw [h1 m hm]
              by_cases r : (m : Int) ∈ bs
              · rw [if_pos r, if_pos (List.mem_append.2 (.inl r))]
              · rw [if_neg r, if_neg]
                rw [List.mem_append, List.mem_singleton]
                intro hh
                rcases hh with hh | hh
                · exact r hh
                · omega
            · rw [h2, if_neg q, if_pos (List.mem_append.2 (.inr (List.mem_singleton.2 rfl)))]; rfl
        · have hp : placeOf t = -1 := by unfold placeOf; rw [if_neg p1, if_neg p4]
          rw [if_neg p4, hp, decide_eq_false (show ¬ (0 : Int) ≤ -1 by omega), Bool.false_and]
          simp only [Bool.not_false, Bool.true_and]
          refine imT_eq F ts _ _ (bs ++ [-1]) hl (fun m hm => ?_) ?_
          · rw [h1 m hm]
            by_cases r : (m : Int) ∈ bs
            · rw [if_pos r, if_pos (List.mem_append.2 (.inl r))]
            · rw [if_neg r, if_neg]
              rw [List.mem_append, List.mem_singleton]
              intro hh
              rcases hh with hh | hh
              · exact r hh
              · omega
          · rw [h2]
            by_cases r : (9 : Int) ∈ bs
            · rw [if_pos r, if_pos (List.mem_append.2 (.inl r))]
            · rw [if_neg r, if_neg]
              rw [List.mem_append, List.mem_singleton]
              intro hh
              rcases hh with hh | hh
              · exact r hh
              · omega
    · rw [Bool.eq_false_iff.mpr g, Bool.false_and, Bool.false_and, Bool.false_and]
theorem spT_all {a b c : List Int} {d : Int} : ∀ (ts : List S80) (bs : List Int), spT a b c d ts bs = true → ∀ t ∈ ts, okT a b c d t = true
  | [], _, _ => by simp
  | t :: ts, bs, h => by
    simp only [spT, Bool.and_eq_true] at h
    intro x hx
    rcases List.mem_cons.1 hx with rfl | hx
    · exact h.1
    · exact spT_all ts _ h.2.2 x hx
theorem ok_eq (a b c : List Int) (d e : Int) (tr : List S80) (ws : List (List Int)) (ln : List Int) (ti du id_ : Int) : implOk a b c d e tr ws ln ti du id_ = yardOk a b c d e tr ws ln ti du id_ := by
  unfold implOk yardOk
  by_cases gF : fleetOk a b c d e = true
  · have F := (fleetOk_iff _ _ _ _ _).1 gF
    rw [imT_eq F tr (List.replicate a.length 0) 0 [] (by simp) (fun s h => by simp) (by simp)]
    by_cases gS : spT a b c d tr [] = true
    · rw [gS, Bool.true_and]
      by_cases gw : ws.length = a.length
      · have hl := lists_eq tr ws ln (fun t ht => by
          have := spT_all tr [] gS t ht
          unfold okT at this
          rw [Bool.and_eq_true, Bool.and_eq_true, inr_iff, inr_iff] at this
          omega)
        rw [hl]
        cases inr 1 8 (tr.length : Int) <;> cases inr 0 100000 ti <;> cases inr 0 100000 du <;> cases inr 0 ti id_ <;> cases listsOk tr ws ln <;> simp
      · rw [decide_eq_false gw]; simp
    · rw [Bool.eq_false_iff.mpr gS]; simp
  · rw [Bool.eq_false_iff.mpr gF]; simp
theorem szTruckS_ev (l : List S103) (a : Int) (ha : 0 ≤ a ∧ a ≤ 1048576) (hl : l.length ≤ maxLen) : ∃ r, laws_szTruckS.f l a = some r ∧ (0 ≤ r → r = a - l.length) := by
  simp only [maxLen] at hl
  unfold laws_szTruckS.f
  rw [w64 (x := a - (l.length : Int)) (by omega) (by omega)]
  by_cases h : a - (l.length : Int) < 0
  · exact ⟨-1, by rw [if_pos h], fun h2 => by omega⟩
  · exact ⟨_, by rw [if_neg h], fun _ => rfl⟩
theorem szYard_ev (a b c : List Int) (d e : Int) (tr : List S103) (ws : List (List Int)) (ln : List Int) (ti du id_ : Int) (ha : a.length ≤ maxLen) (hb : b.length ≤ maxLen) (hc : c.length ≤ maxLen) (ht : tr.length ≤ maxLen) (hw : ws.length ≤ maxLen) (hwx : ∀ x ∈ ws, x.length ≤ maxLen) (hl : ln.length ≤ maxLen) :
    ∃ r, (∃ K, ∀ k, K ≤ k → laws_szYard.f k a b c d e tr ws ln ti du id_ 1048576 = some r) ∧ (0 ≤ r → a.length ≤ 1048576 ∧ b.length ≤ 1048576 ∧ c.length ≤ 1048576 ∧ tr.length ≤ 1048576 ∧ ws.length ≤ 1048576 ∧ (∀ x ∈ ws, x.length ≤ 1048576) ∧ ln.length ≤ 1048576) := by
  obtain ⟨r1, h1, e1⟩ := szFleet_ev a b c d e 1048576 (by omega) ha hb hc
  by_cases n1 : r1 < 0
  · exact ⟨-1, ⟨0, fun k _ => by unfold laws_szYard.f; rw [h1]; simp only [Option.bind_some]; rw [if_pos n1]⟩, fun h => by omega⟩
  · have e1 := e1 (by omega)
    obtain ⟨r2, h2, e2⟩ := szTruckS_ev tr r1 (by omega) ht
    by_cases n2 : r2 < 0
    · exact ⟨-1, ⟨0, fun k _ => by unfold laws_szYard.f; rw [h1]; simp only [Option.bind_some]; rw [if_neg n1, h2]; simp only [Option.bind_some]; rw [if_pos n2]⟩, fun h => by omega⟩
    · have e2 := e2 (by omega)
      obtain ⟨r3, ⟨K3, h3⟩, e3⟩ := szIntSS_ev ws r2 (by omega) hw hwx
      by_cases n3 : r3 < 0
      · exact ⟨-1, ⟨K3, fun k hk => by unfold laws_szYard.f; rw [h1]; simp only [Option.bind_some]; rw [if_neg n1, h2]; simp only [Option.bind_some]; rw [if_neg n2, h3 k hk]; simp only [Option.bind_some]; rw [if_pos n3]⟩, fun h => by omega⟩
      · have e3 := e3 (by omega)
        obtain ⟨r4, h4, e4, _⟩ := szIntS_ev ln r3 (by omega) hl
        by_cases n4 : r4 < 0
        · exact ⟨-1, ⟨K3, fun k hk => by unfold laws_szYard.f; rw [h1]; simp only [Option.bind_some]; rw [if_neg n1, h2]; simp only [Option.bind_some]; rw [if_neg n2, h3 k hk]; simp only [Option.bind_some]; rw [if_neg n3, h4]; simp only [Option.bind_some]; rw [if_pos n4]⟩, fun h => by omega⟩
        · have e4 := e4 (by omega)
          refine ⟨r4, ⟨K3, fun k hk => by unfold laws_szYard.f; rw [h1]; simp only [Option.bind_some]; rw [if_neg n1, h2]; simp only [Option.bind_some]; rw [if_neg n2, h3 k hk]; simp only [Option.bind_some]; rw [if_neg n3, h4]; simp only [Option.bind_some]; rw [if_neg n4]⟩, fun h => ⟨by omega, by omega, by omega, by omega, by omega, fun x hx => by have := e3.2.2 x hx; omega, by omega⟩⟩
def trucksOf (l : List S103) : List S80 := l.map fun x => ⟨x.f0, x.f1, x.f2⟩
theorem trucksOf_length (l : List S103) : (trucksOf l).length = l.length := by simp [trucksOf]
theorem toTruckS_ev (l : List S103) (hl : l.length ≤ 1048576) : ∃ K, ∀ k, K ≤ k → laws_toTruckS.f k l = some (trucksOf l) := by
  have hbl := trucksOf_length l
  have h := ev_loop (F := fun k i => laws_toTruckS.l0 k l ((trucksOf l).take i ++ List.replicate ((trucksOf l).length - i) z80) (i : Int)) (n := l.length) (res := fun _ => trucksOf l)
    (ev_suc 0 fun k _ => by simp only [laws_toTruckS.l0]; rw [if_neg (by omega), ← hbl, fill_last])
    (fun i hi K hK => ev_suc K fun k hk => by
      have hi2 : i < (trucksOf l).length := by rw [hbl]; exact hi
      have e : rd_T103 l (i : Int) = l[i] := by simp [rd_T103, List.getD_eq_getElem?_getD, hi]
      have e2 : (⟨l[i].f0, l[i].f1, l[i].f2⟩ : S80) = (trucksOf l)[i] := by simp [trucksOf]
      simp only [laws_toTruckS.l0]
      rw [if_pos (by omega), if_pos (by omega), e]
      simp only [laws_toTruck.f, Option.bind_some]
      rw [if_pos (by rw [fill_length _ _ i (by omega)]; omega), Int.toNat_natCast, e2, fill_step _ _ i hi2, w64s (by omega)]
      exact hK k hk) 0 (Nat.zero_le _)
  obtain ⟨K, h⟩ := h
  refine ⟨K, fun k hk => ?_⟩
  unfold laws_toTruckS.f
  rw [if_pos (by omega), if_pos (by omega), Int.toNat_natCast]
  have h2 := h k hk
  rw [hbl] at h2
  simpa using h2
theorem toYard_ev (a b c : List Int) (d e : Int) (tr : List S103) (ws : List (List Int)) (ln : List Int) (ti du id_ : Int) (ha : a.length ≤ 1048576) (hb : b.length ≤ 1048576) (hc : c.length ≤ 1048576) (ht : tr.length ≤ 1048576) (hw : ws.length ≤ 1048576) (hwx : ∀ x ∈ ws, x.length ≤ 1048576) (hl : ln.length ≤ 1048576) : ∃ K, ∀ k, K ≤ k → laws_toYard.f k a b c d e tr ws ln ti du id_ = some (a, b, c, d, e, trucksOf tr, ws, ln, ti, du, id_) := by
  obtain ⟨K1, h1⟩ := toFleet_ev a b c d e ha hb hc
  obtain ⟨K2, h2⟩ := toTruckS_ev tr ht
  obtain ⟨K3, h3⟩ := toIntSS_ev ws hw hwx
  obtain ⟨K4, h4⟩ := toIntS_ev ln hl
  exact ⟨K1 + K2 + K3 + K4, fun k hk => by simp (disch := omega) only [laws_toYard.f, h1, h2, h3, h4, Option.bind_some]⟩
theorem eqTruckS_ev (l : List S80) (hl : l.length ≤ 1048576) : ∃ K, ∀ k, K ≤ k → laws_eqTruckS.f k l l = some true := by
  have h := ev_loop (F := fun k i => laws_eqTruckS.l0 k l l (i : Int)) (n := l.length) (res := fun _ => true)
    (ev_suc 0 fun k _ => by simp only [laws_eqTruckS.l0]; rw [if_neg (by omega)])
    (fun i hi K hK => ev_suc K fun k hk => by
      simp only [laws_eqTruckS.l0, laws_eqTruck.f]
      rw [if_pos (by omega), if_pos (by omega), if_pos (by omega), w64s (by omega)]
      simp only [Option.bind_some, if_true]
      exact hK k hk) 0 (Nat.zero_le _)
  obtain ⟨K, h⟩ := h
  refine ⟨K, fun k hk => ?_⟩
  unfold laws_eqTruckS.f
  rw [if_pos rfl]
  exact h k hk
theorem eqYard_ev (a b c : List Int) (d e : Int) (tr : List S80) (ws : List (List Int)) (ln : List Int) (ti du id_ : Int) (ha : a.length ≤ 1048576) (hb : b.length ≤ 1048576) (hc : c.length ≤ 1048576) (ht : tr.length ≤ 1048576) (hw : ws.length ≤ 1048576) (hwx : ∀ x ∈ ws, x.length ≤ 1048576) (hl : ln.length ≤ 1048576) : ∃ K, ∀ k, K ≤ k → laws_eqYard.f k a b c d e tr ws ln ti du id_ a b c d e tr ws ln ti du id_ = some true := by
  obtain ⟨K1, h1⟩ := eqFleet_ev a b c d e ha hb hc
  obtain ⟨K2, h2⟩ := eqTruckS_ev tr ht
  obtain ⟨K3, h3⟩ := eqIntSS_ev ws hw hwx
  obtain ⟨K4, h4⟩ := eqIntS_ev ln hl
  exact ⟨K1 + K2 + K3 + K4, fun k hk => by simp (disch := omega) only [laws_eqYard.f, h1, h2, h3, h4, Option.bind_some, if_true]⟩
/-- One more truck is counted. -/
def bump (x : List Int) (t : S80) : List Int := x.set t.f0.toNat (wrap64 (rd x t.f0 + 1))
def counts (x : List Int) (l : List S80) : List Int := l.foldl bump x
theorem bump_length (x : List Int) (t : S80) : (bump x t).length = x.length := by simp [bump]
theorem counts_length (l : List S80) : ∀ x : List Int, (counts x l).length = x.length := by
  induction l with
  | nil => intro x; rfl
  | cons t l ih => intro x; exact (ih (bump x t)).trans (bump_length x t)
theorem counts_take (x : List Int) (l : List S80) (i : Nat) (h : i < l.length) : counts x (l.take (i + 1)) = bump (counts x (l.take i)) l[i] := by
  unfold counts
  rw [List.take_succ_eq_append_getElem h, List.foldl_append]
  rfl
theorem spec_count_ev (l : List S80) (hl : l.length ≤ 1048576) (h5 : ∀ t ∈ l, 0 ≤ t.f0 ∧ t.f0 ≤ 5) : ∃ K, ∀ k, K ≤ k → spec_CountStates.l0 k (List.replicate 6 0) l (l.length : Int) 0 = some (counts (List.replicate 6 0) l, true) := by
  have h := ev_loop (F := fun k i => spec_CountStates.l0 k (counts (List.replicate 6 0) (l.take i)) l (l.length : Int) (i : Int)) (n := l.length) (res := fun _ => (counts (List.replicate 6 0) l, true))
    (ev_suc 0 fun k _ => by simp only [spec_CountStates.l0]; rw [if_neg (by omega), List.take_length])
    (fun i hi K hK => ev_suc K fun k hk => by
      have ht := h5 l[i] (List.getElem_mem hi)
      have hlen : (counts (List.replicate 6 0) (l.take i)).length = 6 := by rw [counts_length]; rfl
      simp only [spec_CountStates.l0]
      rw [if_pos (by omega), if_pos (by omega), if_pos (by omega), rdT_nat l i hi, if_pos ht.1, if_pos (by rw [hlen]; omega), w64s (by omega)]
      have h2 := hK k hk
      rw [counts_take _ _ i hi] at h2
      exact h2) 0 (Nat.zero_le _)
  exact h
theorem impl_count_ev (l : List S80) (hl : l.length ≤ 1048576) (h5 : ∀ t ∈ l, 0 ≤ t.f0 ∧ t.f0 ≤ 5) : ∃ K, ∀ k, K ≤ k → impl_CountStates.l0 k (List.replicate 6 0) l (l.length : Int) 0 = some (counts (List.replicate 6 0) l, true) := by
  have h := ev_loop (F := fun k i => impl_CountStates.l0 k (counts (List.replicate 6 0) (l.take i)) l (l.length : Int) (i : Int)) (n := l.length) (res := fun _ => (counts (List.replicate 6 0) l, true))
    (ev_suc 0 fun k _ => by simp only [impl_CountStates.l0]; rw [if_neg (by omega), List.take_length])
    (fun i hi K hK => ev_suc K fun k hk => by
      have ht := h5 l[i] (List.getElem_mem hi)
      have hlen : (counts (List.replicate 6 0) (l.take i)).length = 6 := by rw [counts_length]; rfl
      simp only [impl_CountStates.l0]
      rw [if_pos (by omega), if_pos (by omega), if_pos (by omega), rdT_nat l i hi, if_pos ht.1, if_pos (by rw [hlen]; omega), w64s (by omega)]
      have h2 := hK k hk
      rw [counts_take _ _ i hi] at h2
      exact h2) 0 (Nat.zero_le _)
  exact h
theorem yardOk_states {a b c : List Int} {d e : Int} {tr : List S80} {ws : List (List Int)} {ln : List Int} {ti du id_ : Int} (h : yardOk a b c d e tr ws ln ti du id_ = true) : ∀ t ∈ tr, 0 ≤ t.f0 ∧ t.f0 ≤ 5 := by
  unfold yardOk at h
  simp only [Bool.and_eq_true] at h
  intro t ht
  have h2 := spT_all tr [] h.2.1 t ht
  simp only [okT, Bool.and_eq_true, inr, decide_eq_true_eq] at h2
  exact h2.1
/-- What both give. -/
def countOf (a b c : List Int) (d e : Int) (tr : List S80) (ws : List (List Int)) (ln : List Int) (ti du id_ : Int) : List Int := if yardOk a b c d e tr ws ln ti du id_ = true then counts (List.replicate 6 0) tr else []
theorem countStates_ev (a b c : List Int) (d e : Int) (ha : a.length ≤ 1048576) (hb : b.length ≤ 1048576) (hc : c.length ≤ 1048576) (tr : List S80) (ht : tr.length ≤ 1048576) (ws : List (List Int)) (hw : ws.length ≤ 1048576) (hwx : ∀ x ∈ ws, x.length ≤ 1048576) (ln : List Int) (hl : ln.length ≤ 1048576) (ti du id_ : Int) :
    (∃ K, ∀ k, K ≤ k → spec_CountStates.f k a b c d e tr ws ln ti du id_ = some (countOf a b c d e tr ws ln ti du id_, yardOk a b c d e tr ws ln ti du id_)) ∧ (∃ K, ∀ k, K ≤ k → impl_CountStates.f k a b c d e tr ws ln ti du id_ = some (countOf a b c d e tr ws ln ti du id_, yardOk a b c d e tr ws ln ti du id_)) ∧ (countOf a b c d e tr ws ln ti du id_).length ≤ 6 := by
  obtain ⟨K2, h2⟩ := flGood_ev a b c d e ha hb hc tr ht ws hw hwx ln hl ti du id_
  obtain ⟨K3, h3⟩ := implIsYard_ev a b c d e ha hb hc tr ws ln ti du id_
  rw [ok_eq] at h3
  by_cases hok : yardOk a b c d e tr ws ln ti du id_ = true
  · obtain ⟨K4, h4⟩ := spec_count_ev tr ht (yardOk_states hok)
    obtain ⟨K5, h5⟩ := impl_count_ev tr ht (yardOk_states hok)
    unfold countOf
    rw [if_pos hok]
    refine ⟨⟨K2 + K4, fun k hk => ?_⟩, ⟨K3 + K5, fun k hk => ?_⟩, by rw [counts_length]; simp⟩
    · unfold spec_CountStates.f
      rw [h2 k (by omega), hok]
      simp only [Option.bind_some, if_true]
      rw [if_pos (by decide), h4 k (by omega)]
    · unfold impl_CountStates.f
      rw [h3 k (by omega), hok]
      simp only [Option.bind_some, if_true]
      rw [if_pos (by decide), h5 k (by omega)]
  · unfold countOf
    rw [if_neg hok]
    have hf := Bool.eq_false_iff.mpr hok
    refine ⟨⟨K2, fun k hk => ?_⟩, ⟨K3, fun k hk => ?_⟩, by simp⟩
    · unfold spec_CountStates.f
      rw [h2 k (by omega), hf]
      simp
    · unfold impl_CountStates.f
      rw [h3 k (by omega), hf]
      simp
theorem markIntSS_ev (l : List (List Int)) (hl : l.length ≤ 1048576) (hx : ∀ x ∈ l, x.length ≤ 1048576) : ∀ a : Int, 0 ≤ a → a ≤ 1000000000000000 → ∃ (m : Int) (y : List (List Int)), (∃ K, ∀ k, K ≤ k → laws_markIntSS.f k l a = some (m, y)) ∧ 0 ≤ m ∧ m ≤ a + 1048576 * l.length := by
  intro a ha hab
  have key : ∀ d i, i + d = l.length → ∀ (x : List (List Int)) (b : Int), x.length = l.length → x.drop i = l.drop i → a ≤ b → b ≤ a + 1048576 * i → ∃ (m : Int) (y : List (List Int)), (∃ K, ∀ k, K ≤ k → laws_markIntSS.l0 k x b (i : Int) = some (m, y)) ∧ 0 ≤ m ∧ m ≤ a + 1048576 * l.length := by
    intro d
    induction d with
    | zero =>
      intro i hi x b hxl hd hb1 hb2
      refine ⟨b, x, ev_suc 0 fun k _ => ?_, by omega, by omega⟩
      simp only [laws_markIntSS.l0]
      rw [if_neg (by omega)]
    | succ d ih =>
      intro i hi x b hxl hd hb1 hb2
      have hlt : i < l.length := by omega
      have hltx : i < x.length := by omega
      have hd2 := hd
      rw [List.drop_eq_getElem_cons hltx, List.drop_eq_getElem_cons hlt] at hd2
      obtain ⟨he, hd3⟩ := List.cons.inj hd2
      have hxi : x[i].length ≤ 1048576 := by rw [he]; exact hx _ (List.getElem_mem hlt)
      obtain ⟨K1, h1⟩ := markIntS_ev x[i] hxi b (by omega)
      obtain ⟨m, y, ⟨K2, h2⟩, h3, h4⟩ := ih (i + 1) (by omega) (x.set i (ramp b x[i].length)) (b + (x[i].length : Int)) (by rw [List.length_set]; exact hxl) (by rw [List.drop_set_of_lt (by omega)]; exact hd3) (by omega) (by omega)
      refine ⟨m, y, ev_suc (max K1 K2) fun k hk => ?_, h3, h4⟩
      simp only [laws_markIntSS.l0]
      rw [if_pos (by omega), if_pos (by omega), rdLL_natY x i hltx, h1 k (by omega)]
      simp only [Option.bind_some, Int.toNat_natCast]
      rw [w64s (by omega)]
      exact h2 k (by omega)
  obtain ⟨m, y, h1, h2, h3⟩ := key l.length 0 (by omega) l a rfl rfl (by omega) (by omega)
  exact ⟨m, y, h1, h2, h3⟩
theorem markTruckS_ev (l : List S80) (hl : l.length ≤ 1048576) (a : Int) (ha : 0 ≤ a) (hab : a ≤ 1000000000000000) : ∃ (y : List S80), ∃ K, ∀ k, K ≤ k → laws_markTruckS.f k l a = some (a + 3 * (l.length : Int), y) := by
  have key : ∀ d i, i + d = l.length → ∀ (x : List S80), x.length = l.length → ∃ (y : List S80), ∃ K, ∀ k, K ≤ k → laws_markTruckS.l0 k x (a + 3 * (i : Int)) (i : Int) = some (a + 3 * (l.length : Int), y) := by
    intro d
    induction d with
    | zero =>
      intro i hi x hxl
      obtain rfl : i = l.length := by omega
      exact ⟨x, ev_suc 0 fun k _ => by simp only [laws_markTruckS.l0]; rw [if_neg (by omega)]⟩
    | succ d ih =>
      intro i hi x hxl
      obtain ⟨y, K, h⟩ := ih (i + 1) (by omega) (((x.set i ⟨a + 3 * (i : Int), (rd_T80 x (i : Int)).f1, (rd_T80 x (i : Int)).f2⟩).set i ⟨(rd_T80 (x.set i ⟨a + 3 * (i : Int), (rd_T80 x (i : Int)).f1, (rd_T80 x (i : Int)).f2⟩) (i : Int)).f0, a + 3 * (i : Int) + 1, (rd_T80 (x.set i ⟨a + 3 * (i : Int), (rd_T80 x (i : Int)).f1, (rd_T80 x (i : Int)).f2⟩) (i : Int)).f2⟩).set i ⟨(rd_T80 ((x.set i ⟨a + 3 * (i : Int), (rd_T80 x (i : Int)).f1, (rd_T80 x (i : Int)).f2⟩).set i ⟨(rd_T80 (x.set i ⟨a + 3 * (i : Int), (rd_T80 x (i : Int)).f1, (rd_T80 x (i : Int)).f2⟩) (i : Int)).f0, a + 3 * (i : Int) + 1, (rd_T80 (x.set i ⟨a + 3 * (i : Int), (rd_T80 x (i : Int)).f1, (rd_T80 x (i : Int)).f2⟩) (i : Int)).f2⟩) (i : Int)).f0, (rd_T80 ((x.set i ⟨a + 3 * (i : Int), (rd_T80 x (i : Int)).f1, (rd_T80 x (i : Int)).f2⟩).set i ⟨(rd_T80 (x.set i ⟨a + 3 * (i : Int), (rd_T80 x (i : Int)).f1, (rd_T80 x (i : Int)).f2⟩) (i : Int)).f0, a + 3 * (i : Int) + 1, (rd_T80 (x.set i ⟨a + 3 * (i : Int), (rd_T80 x (i : Int)).f1, (rd_T80 x (i : Int)).f2⟩) (i : Int)).f2⟩) (i : Int)).f1, a + 3 * (i : Int) + 1 + 1⟩) (by simpa using hxl)
      refine ⟨y, ev_suc K fun k hk => ?_⟩
      have h2 := h k hk
      simp only [laws_markTruckS.l0]
      rw [if_pos (by omega), if_pos (by omega)]
      simp only [Option.bind_some, Int.toNat_natCast]
      rw [w64s (by omega), w64 (x := a + 3 * (i : Int) + 1) (by omega) (by omega), w64 (x := a + 3 * (i : Int) + 1 + 1) (by omega) (by omega), w64 (x := a + 3 * (i : Int) + 1 + 1 + 1) (by omega) (by omega)]
      rw [show a + 3 * ((i + 1 : Nat) : Int) = a + 3 * (i : Int) + 1 + 1 + 1 from by omega] at h2
      exact h2
  obtain ⟨y, K, h⟩ := key l.length 0 (by omega) l rfl
  exact ⟨y, K, fun k hk => by unfold laws_markTruckS.f; simpa using h k hk⟩
theorem markFleet_ev (a b c : List Int) (d e : Int) (ha : a.length ≤ 1048576) (hb : b.length ≤ 1048576) (hc : c.length ≤ 1048576) : ∃ (y0 y1 y2 : List Int), ∃ K, ∀ k, K ≤ k → laws_markFleet.f k a b c d e 1 = some (1 + (a.length : Int) + (b.length : Int) + (c.length : Int), y0, y1, y2) := by
  obtain ⟨K1, h1⟩ := markIntS_ev a ha 1 (by omega)
  obtain ⟨K2, h2⟩ := markIntS_ev b hb (1 + (a.length : Int)) (by omega)
  obtain ⟨K3, h3⟩ := markIntS_ev c hc (1 + (a.length : Int) + (b.length : Int)) (by omega)
  exact ⟨ramp 1 a.length, ramp (1 + (a.length : Int)) b.length, ramp (1 + (a.length : Int) + (b.length : Int)) c.length, K1 + K2 + K3, fun k hk => by simp (disch := omega) only [laws_markFleet.f, h1, h2, h3, Option.bind_some]⟩
theorem FnExactCountStates (a b c : List Int) (d e : Int) (tr : List S103) (ws : List (List Int)) (ln : List Int) (ti du id_ : Int) (ha : a.length ≤ maxLen) (_ : ∀ z ∈ a, (Lit.int .i64 z).wf = true) (hb : b.length ≤ maxLen) (_ : ∀ z ∈ b, (Lit.int .i64 z).wf = true) (hc : c.length ≤ maxLen) (_ : ∀ z ∈ c, (Lit.int .i64 z).wf = true) (_ : (Lit.int .i64 d).wf = true) (_ : (Lit.int .i64 e).wf = true) (ht : tr.length ≤ maxLen) (_ : ∀ x ∈ tr, (Lit.int .i64 x.f0).wf = true ∧ (Lit.int .i64 x.f1).wf = true ∧ (Lit.int .i64 x.f2).wf = true) (hw : ws.length ≤ maxLen) (hwx : ∀ x ∈ ws, x.length ≤ maxLen ∧ ∀ z ∈ x, (Lit.int .i64 z).wf = true) (hl : ln.length ≤ maxLen) (_ : ∀ z ∈ ln, (Lit.int .i64 z).wf = true) (_ : (Lit.int .i64 ti).wf = true) (_ : (Lit.int .i64 du).wf = true) (_ : (Lit.int .i64 id_).wf = true) : ∃ k, MFnExactCountStates.Told k a b c d e tr ws ln ti du id_ := by
  obtain ⟨s, ⟨K0, h0⟩, hs⟩ := szYard_ev a b c d e tr ws ln ti du id_ ha hb hc ht hw (fun x hx => (hwx x hx).1) hl
  by_cases hneg : s < 0
  · exact ⟨K0, .inl ⟨s, h0 K0 (Nat.le_refl _), hneg⟩⟩
  · obtain ⟨b1, b2, b3, b4, b5, b6, b7⟩ := hs (by omega)
    have htl := trucksOf_length tr
    obtain ⟨K1, h1⟩ := toYard_ev a b c d e tr ws ln ti du id_ b1 b2 b3 b4 b5 b6 b7
    obtain ⟨⟨K2, h2⟩, ⟨K3, h3⟩, hg⟩ := countStates_ev a b c d e b1 b2 b3 (trucksOf tr) (by omega) ws b5 b6 ln b7 ti du id_
    obtain ⟨K4, h4⟩ := eqYard_ev a b c d e (trucksOf tr) ws ln ti du id_ b1 b2 b3 (by omega) b5 b6 b7
    generalize countOf a b c d e (trucksOf tr) ws ln ti du id_ = g at h2 h3 hg
    generalize yardOk a b c d e (trucksOf tr) ws ln ti du id_ = x at h2 h3
    obtain ⟨K5, h5⟩ := eqIntS_ev g (by omega)
    obtain ⟨y0, y1, y2, K6, h6⟩ := markFleet_ev a b c d e b1 b2 b3
    obtain ⟨y5, K7, h7⟩ := markTruckS_ev (trucksOf tr) (by omega) (1 + (a.length : Int) + (b.length : Int) + (c.length : Int)) (by omega) (by omega)
    obtain ⟨m3, y6, ⟨K8, h8⟩, p8, q8⟩ := markIntSS_ev ws b5 b6 (1 + (a.length : Int) + (b.length : Int) + (c.length : Int) + 3 * ((trucksOf tr).length : Int)) (by omega) (by omega)
    obtain ⟨K9, h9⟩ := markIntS_ev ln b7 m3 (by omega)
    obtain ⟨K10, h10⟩ := markIntS_ev g (by omega) 1 (by omega)
    obtain ⟨K11, h11⟩ := heldIntS_ev g.length (by omega) 1 (by omega)
    refine ⟨K0 + K1 + K2 + K3 + K4 + K5 + K6 + K7 + K8 + K9 + K10 + K11, .inr ⟨trucksOf tr, s, _, _, m3, _, _, y0, y1, y2, _, g, _, x, y5, y6, h0 _ (by omega), h1 _ (by omega), h2 _ (by omega), h3 _ (by omega), h5 _ (by omega), h4 _ (by omega), h6 _ (by omega), h7 _ (by omega), h8 _ (by omega), h9 _ (by omega), h10 _ (by omega), h11 _ (by omega), hneg, by omega, by omega⟩⟩

end Go.Proofs.Ytikbfnbfbpnmjaa.Pure
