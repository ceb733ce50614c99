/- THE PURE SIDE OF FnExactNewYard: the printed functions of the reference and of the program give the same results. Plain Lean: no memory and no Go. -/
import Derived.Test.YtikbfnbfbpnmjaaMFnExactNewYard
import Derived.OpenShut
namespace Go.Proofs.Ytikbfnbfbpnmjaa.Pure
open Go.RowKit Go.Proofs.Ytikbfnbfbpnmjaa.PFnExactNewYard Go.Proofs.Ytikbfnbfbpnmjaa.MFnExactNewYard Go.Proofs.YtikbfnbfbpnmjaaW.PrintWords Go.Proofs.YtikbfnbfbpnmjaaW.PrintLast Go.Proofs.YtikbfnbfbpnmjaaW.PrintMore
set_option linter.unusedVariables false
set_option linter.unusedSimpArgs false

theorem w64 {x : Int} (h1 : -9223372036854775808 ≤ x) (h2 : x ≤ 9223372036854775807) : wrap64 x = x := by unfold wrap64; omega
theorem w64s {i : Nat} (h : i ≤ 9000000000000000000) : wrap64 ((i : Int) + 1) = ((i + 1 : Nat) : Int) := by rw [w64 (by omega) (by omega)]; omega
theorem rd_nat (l : List Int) (i : Nat) (h : i < l.length) : rd l (i : Int) = l[i] := by simp [rd, List.getD_eq_getElem?_getD, h]
def inr (lo hi x : Int) : Bool := decide (lo ≤ x) && decide (x ≤ hi)
theorem inr_iff (lo hi x : Int) : inr lo hi x = true ↔ lo ≤ x ∧ x ≤ hi := by simp [inr]
theorem inr_false (lo hi x : Int) : inr lo hi x = false ↔ ¬ (lo ≤ x ∧ x ≤ hi) := by rw [← inr_iff, Bool.not_eq_true]
theorem l1In_eq (a b c : Int) : spec_l1In.f a b c = some (inr b c a) := by
  unfold spec_l1In.f inr
  by_cases h : a ≥ b
  · rw [if_pos h]; simp [show b ≤ a from h]
  · rw [if_neg h]; simp [show ¬ b ≤ a from h]
theorem l1All_l0 (lo hi : Int) (l : List Int) (hl : l.length ≤ 9000000000000000000) : ∀ (d k i : Nat), i + d = l.length → d < k → spec_l1All.l0 k lo hi l (l.length : Int) (i : Int) = some ((l.drop i).all (inr lo hi)) := by
  intro d
  induction d with
  | zero =>
    intro k i hi' hk
    obtain ⟨k, rfl⟩ : ∃ m, k = m + 1 := ⟨k - 1, by omega⟩
    simp only [spec_l1All.l0]
    rw [if_neg (by omega), List.drop_of_length_le (by omega)]; rfl
  | succ d ih =>
    intro k i hi' hk
    obtain ⟨k, rfl⟩ : ∃ m, k = m + 1 := ⟨k - 1, by omega⟩
    have hlt : i < l.length := by omega
    simp only [spec_l1All.l0]
    rw [if_pos (by omega), if_pos (by omega), if_pos (by omega), l1In_eq, List.drop_eq_getElem_cons hlt, List.all_cons, rd_nat l i hlt, w64s (by omega), ih k (i + 1) (by omega) (by omega)]
    simp only [Option.bind_some]
    by_cases h : inr lo hi l[i] = true
    · rw [if_pos h, h, Bool.true_and]
    · rw [if_neg h, Bool.eq_false_iff.mpr h, Bool.false_and]
theorem l1All_eq (lo hi : Int) (l : List Int) (hl : l.length ≤ 9000000000000000000) (k : Nat) (hk : l.length < k) : spec_l1All.f k l lo hi = some (l.all (inr lo hi)) := by
  unfold spec_l1All.f
  exact l1All_l0 lo hi l hl l.length k 0 (by omega) hk
theorem eqIntS_l0 (l : List Int) (hl : l.length ≤ 9000000000000000000) : ∀ (d k i : Nat), i + d = l.length → d < k → laws_eqIntS.l0 k l l (i : Int) = some true := by
  intro d
  induction d with
  | zero =>
    intro k i hi' hk
    obtain ⟨k, rfl⟩ : ∃ m, k = m + 1 := ⟨k - 1, by omega⟩
    simp only [laws_eqIntS.l0]
    rw [if_neg (by omega)]
  | succ d ih =>
    intro k i hi' hk
    obtain ⟨k, rfl⟩ : ∃ m, k = m + 1 := ⟨k - 1, by omega⟩
    simp only [laws_eqIntS.l0]
    rw [if_pos (by omega), if_pos (by omega), if_pos (by omega), if_pos trivial, w64s (by omega)]
    exact ih k (i + 1) (by omega) (by omega)
theorem eqIntS_self (l : List Int) (hl : l.length ≤ 9000000000000000000) (k : Nat) (hk : l.length < k) : laws_eqIntS.f k l l = some true := by
  unfold laws_eqIntS.f
  rw [if_pos rfl]
  exact eqIntS_l0 l hl l.length k 0 (by omega) hk
/-- What 'mark' writes: numbers in their order. -/
def ramp (a : Int) (n : Nat) : List Int := (List.range n).map fun (i : Nat) => a + (i : Int)
theorem ramp_length (a : Int) (n : Nat) : (ramp a n).length = n := by simp [ramp]
theorem ramp_succ (a : Int) (n : Nat) : ramp a (n + 1) = ramp a n ++ [a + (n : Int)] := by simp [ramp, List.range_succ]
theorem ramp_at (a : Int) (n i : Nat) (h : i < n) : rd (ramp a n) (i : Int) = a + (i : Int) := by
  rw [rd_nat _ _ (by rw [ramp_length]; exact h)]
  simp [ramp]
theorem markIntS_l0 (a : Int) (ha : 0 ≤ a ∧ a ≤ 1000000000000000000) (l : List Int) (hl : l.length ≤ 1000000000000000000) : ∀ (d k i : Nat), i + d = l.length → d < k → laws_markIntS.l0 k (ramp a i ++ l.drop i) (a + (i : Int)) (i : Int) = some (a + (l.length : Int), ramp a l.length) := by
  intro d
  induction d with
  | zero =>
    intro k i hi' hk
    obtain ⟨k, rfl⟩ : ∃ m, k = m + 1 := ⟨k - 1, by omega⟩
    obtain rfl : i = l.length := by omega
    simp only [laws_markIntS.l0]
    rw [if_neg (by simp [ramp_length]), List.drop_of_length_le (Nat.le_refl _), List.append_nil]
  | succ d ih =>
    intro k i hi' hk
    obtain ⟨k, rfl⟩ : ∃ m, k = m + 1 := ⟨k - 1, by omega⟩
    have hlt : i < l.length := by omega
    simp only [laws_markIntS.l0]
    rw [if_pos (by simp [ramp_length]; omega), if_pos (by omega), Int.toNat_natCast, List.drop_eq_getElem_cons hlt]
    rw [List.set_append_right _ _ (by rw [ramp_length]; exact Nat.le_refl _), ramp_length, Nat.sub_self, List.set_cons_zero]
    rw [w64s (by omega), w64 (by omega) (by omega)]
    have h := ih k (i + 1) (by omega) (by omega)
    rw [ramp_succ, List.append_assoc, List.singleton_append, show a + ((i + 1 : Nat) : Int) = a + (i : Int) + 1 from by omega] at h
    exact h
theorem markIntS_eq (a : Int) (ha : 0 ≤ a ∧ a ≤ 1000000000000000000) (l : List Int) (hl : l.length ≤ 1000000000000000000) (k : Nat) (hk : l.length < k) : laws_markIntS.f k l a = some (a + (l.length : Int), ramp a l.length) := by
  unfold laws_markIntS.f
  have h := markIntS_l0 a ha l hl l.length k 0 (by omega) hk
  simpa [ramp] using h
theorem heldIntS_l0 (a : Int) (ha : 0 ≤ a ∧ a ≤ 1000000000000000000) (n : Nat) (hl : n ≤ 1000000000000000000) : ∀ (d k i : Nat), i + d = n → d < k → laws_heldIntS.l0 k (ramp a n) (a + (i : Int)) (i : Int) = some (a + (n : Int)) := by
  intro d
  induction d with
  | zero =>
    intro k i hi' hk
    obtain ⟨k, rfl⟩ : ∃ m, k = m + 1 := ⟨k - 1, by omega⟩
    obtain rfl : i = n := by omega
    simp only [laws_heldIntS.l0]
    rw [if_neg (by rw [ramp_length]; omega)]
  | succ d ih =>
    intro k i hi' hk
    obtain ⟨k, rfl⟩ : ∃ m, k = m + 1 := ⟨k - 1, by omega⟩
    simp only [laws_heldIntS.l0]
    rw [if_pos (by rw [ramp_length]; omega), if_pos (by omega), ramp_at a n i (by omega), if_pos rfl, w64s (by omega), w64 (by omega) (by omega)]
    have h := ih k (i + 1) (by omega) (by omega)
    rw [show a + ((i + 1 : Nat) : Int) = a + (i : Int) + 1 from by omega] at h
    exact h
theorem heldIntS_eq (a : Int) (ha : 0 ≤ a ∧ a ≤ 1000000000000000000) (n : Nat) (hl : n ≤ 1000000000000000000) (k : Nat) (hk : n < k) : laws_heldIntS.f k (ramp a n) a = some (a + (n : Int)) := by
  unfold laws_heldIntS.f
  have h := heldIntS_l0 a ha n hl n k 0 (by omega) hk
  simpa using h

theorem ev_loop {β : Type} {F : Nat → Nat → Option β} {n : Nat} {res : Nat → β} (last : ∃ K, ∀ k, K ≤ k → F k n = some (res n)) (step : ∀ i, i < n → ∀ K, (∀ k, K ≤ k → F k (i + 1) = some (res (i + 1))) → ∃ K, ∀ k, K ≤ k → F k i = some (res i)) : ∀ i, i ≤ n → ∃ K, ∀ k, K ≤ k → F k i = some (res i) := by
  have key : ∀ d i, i + d = n → ∃ K, ∀ k, K ≤ k → F k i = some (res i) := by
    intro d
    induction d with
    | zero => intro i h; obtain rfl : i = n := by omega
              exact last
    | succ d ih =>
      intro i h
      obtain ⟨K, hK⟩ := ih (i + 1) (by omega)
      exact step i (by omega) K hK
  exact fun i h => key (n - i) i (by omega)
/-- One round more. -/
theorem ev_suc {β : Type} {g : Nat → Option β} {r : β} (K : Nat) (h : ∀ k, K ≤ k → g (k + 1) = some r) : ∃ K, ∀ k, K ≤ k → g k = some r :=
  ⟨K + 1, fun k hk => by obtain ⟨k, rfl⟩ : ∃ m, k = m + 1 := ⟨k - 1, by omega⟩; exact h k (by omega)⟩
theorem fill_step {α : Type} (l : List α) (z : α) (i : Nat) (h : i < l.length) : (l.take i ++ List.replicate (l.length - i) z).set i l[i] = l.take (i + 1) ++ List.replicate (l.length - (i + 1)) z := by
  have e : l.length - i = (l.length - (i + 1)) + 1 := by omega
  rw [List.set_append_right _ _ (by rw [List.length_take]; omega), List.length_take, Nat.min_eq_left (by omega), Nat.sub_self, e, List.replicate_succ, List.set_cons_zero, List.take_succ_eq_append_getElem h, List.append_assoc, List.singleton_append]
theorem fill_length {α : Type} (l : List α) (z : α) (i : Nat) (h : i ≤ l.length) : (l.take i ++ List.replicate (l.length - i) z).length = l.length := by
  rw [List.length_append, List.length_take, List.length_replicate]; omega
theorem fill_last {α : Type} (l : List α) (z : α) : l.take l.length ++ List.replicate (l.length - l.length) z = l := by simp
/-- What 'sz' leaves: where it isn't below 0, the row is no longer than that. -/
theorem szIntS_ev (l : List Int) (a : Int) (ha : 0 ≤ a ∧ a ≤ 1048576) (hl : l.length ≤ maxLen) : ∃ r, laws_szIntS.f l a = some r ∧ (0 ≤ r → r = a - l.length) ∧ (r < 0 → a < l.length) := by
  simp only [maxLen] at hl
  unfold laws_szIntS.f
  rw [w64 (by omega) (by omega)]
  by_cases h : a - (l.length : Int) < 0
  · exact ⟨-1, by rw [if_pos h], fun h2 => by omega, fun _ => by omega⟩
  · exact ⟨a - (l.length : Int), by rw [if_neg h], fun _ => rfl, fun h2 => by omega⟩
theorem rdLL_nat (l : List (List Int)) (i : Nat) (h : i < l.length) : rd_L2 l (i : Int) = l[i] := by simp [rd_L2, List.getD_eq_getElem?_getD, h]
theorem rdLL_natY (l : List (List Int)) (i : Nat) (h : i < l.length) : rd_L2 l (i : Int) = l[i] := by simp [rd_L2, List.getD_eq_getElem?_getD, h]
theorem toIntS_ev (l : List Int) (hl : l.length ≤ 1048576) : ∃ K, ∀ k, K ≤ k → laws_toIntS.f k l = some l := by
  have h := ev_loop (F := fun k i => laws_toIntS.l0 k l (l.take i ++ List.replicate (l.length - i) 0) (i : Int)) (n := l.length) (res := fun _ => l)
    (ev_suc 0 fun k _ => by simp only [laws_toIntS.l0]; rw [if_neg (by omega), fill_last])
    (fun i hi K hK => ev_suc K fun k hk => by
      simp only [laws_toIntS.l0]
      rw [if_pos (by omega), if_pos (by omega), if_pos (by rw [fill_length l 0 i (by omega)]; omega), Int.toNat_natCast, rd_nat l i hi, fill_step l 0 i hi, w64s (by omega)]
      exact hK k hk) 0 (Nat.zero_le _)
  obtain ⟨K, h⟩ := h
  refine ⟨K, fun k hk => ?_⟩
  unfold laws_toIntS.f
  rw [if_pos (by omega), if_pos (by omega), Int.toNat_natCast]
  simpa using h k hk
theorem eqIntS_ev (l : List Int) (hl : l.length ≤ 1048576) : ∃ K, ∀ k, K ≤ k → laws_eqIntS.f k l l = some true :=
  ⟨l.length + 1, fun k hk => eqIntS_self l (by omega) k (by omega)⟩
theorem eqIntSS_ev (l : List (List Int)) (hl : l.length ≤ 1048576) (hx : ∀ x ∈ l, x.length ≤ 1048576) : ∃ K, ∀ k, K ≤ k → laws_eqIntSS.f k l l = some true := by
  have h := ev_loop (F := fun k i => laws_eqIntSS.l0 k l l (i : Int)) (n := l.length) (res := fun _ => true)
    (ev_suc 0 fun k _ => by simp only [laws_eqIntSS.l0]; rw [if_neg (by omega)])
    (fun i hi K hK => by
      obtain ⟨K2, h2⟩ := eqIntS_ev l[i] (hx _ (List.getElem_mem hi))
      exact ev_suc (max K K2) fun k hk => by
        simp only [laws_eqIntSS.l0]
        rw [if_pos (by omega), if_pos (by omega), if_pos (by omega), rdLL_nat l i hi, h2 k (by omega)]
        simp only [Option.bind_some]
        rw [if_pos trivial, w64s (by omega)]
        exact hK k (by omega)) 0 (Nat.zero_le _)
  obtain ⟨K, h⟩ := h
  refine ⟨K, fun k hk => ?_⟩
  unfold laws_eqIntSS.f
  rw [if_pos rfl]
  exact h k hk
theorem markIntS_ev (l : List Int) (hl : l.length ≤ 1048576) (a : Int) (ha : 0 ≤ a ∧ a ≤ 1000000000000000000) : ∃ K, ∀ k, K ≤ k → laws_markIntS.f k l a = some (a + (l.length : Int), ramp a l.length) :=
  ⟨l.length + 1, fun k hk => markIntS_eq a ha l (by omega) k (by omega)⟩
theorem heldIntS_ev (n : Nat) (hl : n ≤ 1048576) (a : Int) (ha : 0 ≤ a ∧ a ≤ 1000000000000000000) : ∃ K, ∀ k, K ≤ k → laws_heldIntS.f k (ramp a n) a = some (a + (n : Int)) :=
  ⟨n + 1, fun k hk => heldIntS_eq a ha n (by omega) k (by omega)⟩
theorem l1All_ev (lo hi : Int) (l : List Int) (hl : l.length ≤ 1048576) : ∃ K, ∀ k, K ≤ k → spec_l1All.f k l lo hi = some (l.all (inr lo hi)) :=
  ⟨l.length + 1, fun k hk => l1All_eq lo hi l (by omega) k (by omega)⟩

theorem szFleet_ev (a b c : List Int) (d e : Int) (l : Int) (hl : 0 ≤ l ∧ l ≤ 1048576) (ha : a.length ≤ maxLen) (hb : b.length ≤ maxLen) (hc : c.length ≤ maxLen) : ∃ r, laws_szFleet.f a b c d e l = some r ∧ (0 ≤ r → r = l - a.length - b.length - c.length) := by
  unfold laws_szFleet.f
  obtain ⟨r1, h1, h2, h3⟩ := szIntS_ev a l hl ha
  rw [h1]
  simp only [Option.bind_some]
  by_cases n1 : r1 < 0
  · exact ⟨-1, by rw [if_pos n1], fun h => by omega⟩
  · rw [if_neg n1]
    have e1 := h2 (by omega)
    obtain ⟨r2, h4, h5, h6⟩ := szIntS_ev b r1 (by omega) hb
    rw [h4]
    simp only [Option.bind_some]
    by_cases n2 : r2 < 0
    · exact ⟨-1, by rw [if_pos n2], fun h => by omega⟩
    · rw [if_neg n2]
      have e2 := h5 (by omega)
      obtain ⟨r3, h7, h8, h9⟩ := szIntS_ev c r2 (by omega) hc
      rw [h7]
      simp only [Option.bind_some]
      by_cases n3 : r3 < 0
      · exact ⟨-1, by rw [if_pos n3], fun h => by omega⟩
      · exact ⟨r3, by rw [if_neg n3], fun h => by have := h8 h; omega⟩
theorem toFleet_ev (a b c : List Int) (d e : Int) (ha : a.length ≤ 1048576) (hb : b.length ≤ 1048576) (hc : c.length ≤ 1048576) : ∃ K, ∀ k, K ≤ k → laws_toFleet.f k a b c d e = some (a, b, c, d, e) := by
  obtain ⟨K1, h1⟩ := toIntS_ev a ha
  obtain ⟨K2, h2⟩ := toIntS_ev b hb
  obtain ⟨K3, h3⟩ := toIntS_ev c hc
  exact ⟨K1 + K2 + K3, fun k hk => by simp (disch := omega) only [laws_toFleet.f, h1, h2, h3, Option.bind_some]⟩
theorem eqFleet_ev (a b c : List Int) (d e : Int) (ha : a.length ≤ 1048576) (hb : b.length ≤ 1048576) (hc : c.length ≤ 1048576) : ∃ K, ∀ k, K ≤ k → laws_eqFleet.f k a b c d e a b c d e = some true := by
  obtain ⟨K1, h1⟩ := eqIntS_ev a ha
  obtain ⟨K2, h2⟩ := eqIntS_ev b hb
  obtain ⟨K3, h3⟩ := eqIntS_ev c hc
  exact ⟨K1 + K2 + K3, fun k hk => by simp (disch := omega) only [laws_eqFleet.f, h1, h2, h3, Option.bind_some, if_true]⟩
def timesOk (l : List Int) (n : Nat) : Bool := decide (l.length = n) && l.all (inr 1 50)
def fleetOk (a b c : List Int) (d e : Int) : Bool := inr 1 4 (a.length : Int) && (timesOk a a.length && (timesOk b a.length && (timesOk c a.length && (inr 1 50 d && inr 1 400 e))))
structure Fleet (a b c : List Int) (d e : Int) : Prop where
  n : 1 ≤ a.length ∧ a.length ≤ 4
  lb : b.length = a.length
  lc : c.length = a.length
  a : ∀ x ∈ a, 1 ≤ x ∧ x ≤ 50
  b : ∀ x ∈ b, 1 ≤ x ∧ x ≤ 50
  c : ∀ x ∈ c, 1 ≤ x ∧ x ≤ 50
  d : 1 ≤ d ∧ d ≤ 50
  e : 1 ≤ e ∧ e ≤ 400
theorem fleetOk_iff (a b c : List Int) (d e : Int) : fleetOk a b c d e = true ↔ Fleet a b c d e := by
  simp only [fleetOk, timesOk, Bool.and_eq_true, inr_iff, decide_eq_true_eq, List.all_eq_true]
  constructor
  · rintro ⟨h1, ⟨_, h2⟩, ⟨h3, h4⟩, ⟨h5, h6⟩, h7, h8⟩
    exact ⟨by omega, h3, h5, h2, h4, h6, h7, h8⟩
  · rintro ⟨h1, h2, h3, h4, h5, h6, h7, h8⟩
    exact ⟨by omega, ⟨trivial, h4⟩, ⟨h2, h5⟩, ⟨h3, h6⟩, h7, h8⟩
theorem flTimes_ev (l : List Int) (hl : l.length ≤ 1048576) (n : Nat) : ∃ K, ∀ k, K ≤ k → spec_flTimes.f k l (n : Int) = some (timesOk l n) := by
  obtain ⟨K, h⟩ := l1All_ev 1 50 l hl
  refine ⟨K, fun k hk => ?_⟩
  unfold spec_flTimes.f timesOk
  by_cases h1 : l.length = n
  · rw [if_pos (by omega), h k hk, decide_eq_true h1, Bool.true_and]; rfl
  · rw [if_neg (by omega), decide_eq_false h1, Bool.false_and]
theorem flFleet_ev (a b c : List Int) (d e : Int) (ha : a.length ≤ 1048576) (hb : b.length ≤ 1048576) (hc : c.length ≤ 1048576) : ∃ K, ∀ k, K ≤ k → spec_flFleet.f k a b c d e = some (fleetOk a b c d e) := by
  obtain ⟨K1, h1⟩ := flTimes_ev a ha a.length
  obtain ⟨K2, h2⟩ := flTimes_ev b hb a.length
  obtain ⟨K3, h3⟩ := flTimes_ev c hc a.length
  refine ⟨K1 + K2 + K3, fun k hk => ?_⟩
  unfold spec_flFleet.f fleetOk
  simp (disch := omega) only [l1In_eq, h1, h2, h3, Option.bind_some]
  cases inr 1 4 (a.length : Int) <;> cases timesOk a a.length <;> cases timesOk b a.length <;> cases timesOk c a.length <;> cases inr 1 50 d <;> simp
theorem rdLL_natF (l : List (List Int)) (i : Nat) (h : i < l.length) : rd_L2 l (i : Int) = l[i] := by simp [rd_L2, List.getD_eq_getElem?_getD, h]
theorem implIsFleet_l1 (row : List (List Int)) (n i : Int) (c : List Int) (hc : c.length ≤ 1048576) (R : Bool) (K : Nat) (h : ∀ k, K ≤ k → impl_IsFleet.l0 k row n (wrap64 (i + 1)) = some R) :
    ∃ K, ∀ k, K ≤ k → impl_IsFleet.l1 k row n i c (c.length : Int) 0 = some (c.all (inr 1 50) && R) := by
  have h := ev_loop (F := fun k j => impl_IsFleet.l1 k row n i c (c.length : Int) (j : Int)) (n := c.length) (res := fun j => (c.drop j).all (inr 1 50) && R)
    (ev_suc K fun k hk => by
      simp only [impl_IsFleet.l1]
      rw [if_neg (by omega), List.drop_of_length_le (Nat.le_refl _), h k hk]
      rfl)
    (fun j hj K hK => ev_suc K fun k hk => by
      simp only [impl_IsFleet.l1]
      rw [if_pos (by omega), if_pos (by omega), if_pos (by omega), rd_nat c j hj, List.drop_eq_getElem_cons hj, List.all_cons]
      by_cases h1 : c[j] < 1
      · rw [if_pos h1, (inr_false _ _ _).2 (by omega)]; rfl
      · rw [if_neg h1]
        by_cases h2 : c[j] > 50
        · rw [if_pos h2, (inr_false _ _ _).2 (by omega)]; rfl
        · rw [if_neg h2, (inr_iff _ _ _).2 (by omega), w64s (by omega), hK k hk]; rfl) 0 (Nat.zero_le _)
  exact h
theorem implIsFleet_l0 (l : List (List Int)) (hl : l.length ≤ 10) (hx : ∀ x ∈ l, x.length ≤ 1048576) : ∃ K, ∀ k, K ≤ k → impl_IsFleet.l0 k l (l.length : Int) 0 = some (l.all fun x => x.all (inr 1 50)) := by
  have h := ev_loop (F := fun k i => impl_IsFleet.l0 k l (l.length : Int) (i : Int)) (n := l.length) (res := fun i => (l.drop i).all fun x => x.all (inr 1 50))
    (ev_suc 0 fun k _ => by
      simp only [impl_IsFleet.l0]
      rw [if_neg (by omega), List.drop_of_length_le (Nat.le_refl _)]
      rfl)
    (fun i hi K hK => by
      obtain ⟨K2, h2⟩ := implIsFleet_l1 l (l.length : Int) (i : Int) l[i] (hx _ (List.getElem_mem hi)) _ K (by rw [w64s (by omega)]; exact hK)
      exact ev_suc K2 fun k hk => by
        simp only [impl_IsFleet.l0]
        rw [if_pos (by omega), if_pos (by omega), if_pos (by omega), rdLL_natF l i hi, List.drop_eq_getElem_cons hi, List.all_cons, h2 k hk]) 0 (Nat.zero_le _)
  exact h
theorem implIsFleet_ev (a b c : List Int) (d e : Int) (ha : a.length ≤ 1048576) (hb : b.length ≤ 1048576) (hc : c.length ≤ 1048576) : ∃ K, ∀ k, K ≤ k → impl_IsFleet.f k a b c d e = some (fleetOk a b c d e) := by
  obtain ⟨K, h⟩ := implIsFleet_l0 [a, b, c] (by simp) (by simp [ha, hb, hc])
  refine ev_suc K fun k hk => ?_
  have h := h k hk
  have hj : ∀ x, impl_IsFleet.j0 (k + 1) x a b c d e = some (!x && (a.all (inr 1 50) && (b.all (inr 1 50) && c.all (inr 1 50)))) := by
    intro x
    simp only [impl_IsFleet.j0]
    cases x
    · rw [if_neg (by simp)]
      simp only [Option.bind_some]
      rw [h]
      simp
    · rw [if_pos rfl]; rfl
  unfold impl_IsFleet.f fleetOk timesOk
  simp only [hj]
  by_cases h1 : (a.length : Int) < 1
  · rw [if_pos h1, (inr_false 1 4 _).2 (by omega)]; rfl
  · rw [if_neg h1]
    by_cases h2 : (a.length : Int) > 4
    · rw [if_pos h2, (inr_false 1 4 _).2 (by omega)]; rfl
    · rw [if_neg h2, (inr_iff 1 4 _).2 (by omega)]
      by_cases h3 : (b.length : Int) = (a.length : Int)
      · rw [if_pos h3, decide_eq_true (show b.length = a.length by omega)]
        by_cases h4 : (c.length : Int) = (a.length : Int)
        · rw [if_pos h4, decide_eq_true (show c.length = a.length by omega)]
          by_cases h5 : d < 1
          · rw [if_pos h5, (inr_false 1 50 d).2 (by omega)]; simp
          · rw [if_neg h5]
            by_cases h6 : d > 50
            · rw [if_pos h6, (inr_false 1 50 d).2 (by omega)]; simp
            · rw [if_neg h6, (inr_iff 1 50 d).2 (by omega)]
              by_cases h7 : e < 1
              · rw [if_pos h7, (inr_false 1 400 e).2 (by omega)]; simp
              · rw [if_neg h7]
                by_cases h8 : e > 400
                · rw [decide_eq_true h8, (inr_false 1 400 e).2 (by omega)]; simp
                · rw [decide_eq_false h8, (inr_iff 1 400 e).2 (by omega)]; simp
        · rw [if_neg h4, decide_eq_false (show ¬ c.length = a.length by omega)]; simp
      · rw [if_neg h3, decide_eq_false (show ¬ b.length = a.length by omega)]; simp
theorem eqTruckS_ev (l : List S80) (hl : l.length ≤ 1048576) : ∃ K, ∀ k, K ≤ k → laws_eqTruckS.f k l l = some true := by
  have h := ev_loop (F := fun k i => laws_eqTruckS.l0 k l l (i : Int)) (n := l.length) (res := fun _ => true)
    (ev_suc 0 fun k _ => by simp only [laws_eqTruckS.l0]; rw [if_neg (by omega)])
    (fun i hi K hK => ev_suc K fun k hk => by
      simp only [laws_eqTruckS.l0, laws_eqTruck.f]
      rw [if_pos (by omega), if_pos (by omega), if_pos (by omega), w64s (by omega)]
      simp only [Option.bind_some, if_true]
      exact hK k hk) 0 (Nat.zero_le _)
  obtain ⟨K, h⟩ := h
  refine ⟨K, fun k hk => ?_⟩
  unfold laws_eqTruckS.f
  rw [if_pos rfl]
  exact h k hk
theorem eqYard_ev (a b c : List Int) (d e : Int) (tr : List S80) (ws : List (List Int)) (ln : List Int) (ti du id_ : Int) (ha : a.length ≤ 1048576) (hb : b.length ≤ 1048576) (hc : c.length ≤ 1048576) (ht : tr.length ≤ 1048576) (hw : ws.length ≤ 1048576) (hwx : ∀ x ∈ ws, x.length ≤ 1048576) (hl : ln.length ≤ 1048576) : ∃ K, ∀ k, K ≤ k → laws_eqYard.f k a b c d e tr ws ln ti du id_ a b c d e tr ws ln ti du id_ = some true := by
  obtain ⟨K1, h1⟩ := eqFleet_ev a b c d e ha hb hc
  obtain ⟨K2, h2⟩ := eqTruckS_ev tr ht
  obtain ⟨K3, h3⟩ := eqIntSS_ev ws hw hwx
  obtain ⟨K4, h4⟩ := eqIntS_ev ln hl
  exact ⟨K1 + K2 + K3 + K4, fun k hk => by simp (disch := omega) only [laws_eqYard.f, h1, h2, h3, h4, Option.bind_some, if_true]⟩
theorem markFleet_ev (a b c : List Int) (d e : Int) (ha : a.length ≤ 1048576) (hb : b.length ≤ 1048576) (hc : c.length ≤ 1048576) : ∃ (y0 y1 y2 : List Int), ∃ K, ∀ k, K ≤ k → laws_markFleet.f k a b c d e 1 = some (1 + (a.length : Int) + (b.length : Int) + (c.length : Int), y0, y1, y2) := by
  obtain ⟨K1, h1⟩ := markIntS_ev a ha 1 (by omega)
  obtain ⟨K2, h2⟩ := markIntS_ev b hb (1 + (a.length : Int)) (by omega)
  obtain ⟨K3, h3⟩ := markIntS_ev c hc (1 + (a.length : Int) + (b.length : Int)) (by omega)
  exact ⟨ramp 1 a.length, ramp (1 + (a.length : Int)) b.length, ramp (1 + (a.length : Int) + (b.length : Int)) c.length, K1 + K2 + K3, fun k hk => by simp (disch := omega) only [laws_markFleet.f, h1, h2, h3, Option.bind_some]⟩
/-- What the marks leave: numbers in their order, three a truck. -/
def rampT (a : Int) (n : Nat) : List S80 := (List.range n).map fun (i : Nat) => ⟨a + 3 * (i : Int), a + 3 * (i : Int) + 1, a + 3 * (i : Int) + 1 + 1⟩
theorem rampT_length (a : Int) (n : Nat) : (rampT a n).length = n := by simp [rampT]
theorem rampT_succ (a : Int) (n : Nat) : rampT a (n + 1) = rampT a n ++ [⟨a + 3 * (n : Int), a + 3 * (n : Int) + 1, a + 3 * (n : Int) + 1 + 1⟩] := by simp [rampT, List.range_succ]
theorem rdT_natM (l : List S80) (i : Nat) (h : i < l.length) : rd_T80 l (i : Int) = l[i] := by simp [rd_T80, List.getD_eq_getElem?_getD, h]
theorem setT (u v : List S80) (t z : S80) (i : Nat) (h : u.length = i) : (u ++ t :: v).set i z = u ++ z :: v := by
  subst h
  rw [List.set_append_right _ _ (Nat.le_refl _), Nat.sub_self, List.set_cons_zero]
theorem rdT_mid (u v : List S80) (t : S80) (i : Nat) (h : u.length = i) : rd_T80 (u ++ t :: v) (i : Int) = t := by
  subst h
  rw [rdT_natM _ _ (by simp)]
  simp
theorem markTruckR_ev (l : List S80) (hl : l.length ≤ 1048576) (a : Int) (ha : 0 ≤ a) (hab : a ≤ 1000000000000000) : ∃ K, ∀ k, K ≤ k → laws_markTruckS.f k l a = some (a + 3 * (l.length : Int), rampT a l.length) := by
  have h := ev_loop (F := fun k i => laws_markTruckS.l0 k (rampT a i ++ l.drop i) (a + 3 * (i : Int)) (i : Int)) (n := l.length) (res := fun _ => (a + 3 * (l.length : Int), rampT a l.length))
    (ev_suc 0 fun k _ => by simp only [laws_markTruckS.l0]; rw [if_neg (by simp [rampT_length]), List.drop_of_length_le (Nat.le_refl _), List.append_nil])
    (fun i hi K hK => ev_suc K fun k hk => by
      have h2 := hK k hk
      simp only [laws_markTruckS.l0]
      rw [if_pos (by simp [rampT_length]; omega), if_pos (by omega), List.drop_eq_getElem_cons hi]
      simp only [Option.bind_some, Int.toNat_natCast, rdT_mid _ _ _ i (rampT_length a i), setT _ _ _ _ i (rampT_length a i)]
      rw [w64s (by omega), w64 (x := a + 3 * (i : Int) + 1) (by omega) (by omega), w64 (x := a + 3 * (i : Int) + 1 + 1) (by omega) (by omega), w64 (x := a + 3 * (i : Int) + 1 + 1 + 1) (by omega) (by omega)]
      rw [rampT_succ, List.append_assoc, List.singleton_append, show a + 3 * ((i + 1 : Nat) : Int) = a + 3 * (i : Int) + 1 + 1 + 1 from by omega] at h2
      exact h2) 0 (Nat.zero_le _)
  obtain ⟨K, h⟩ := h
  exact ⟨K, fun k hk => by unfold laws_markTruckS.f; have := h k hk; simpa [rampT] using this⟩
theorem heldTruckR_ev (n : Nat) (hl : n ≤ 1048576) (a : Int) (ha : 0 ≤ a) (hab : a ≤ 1000000000000000) : ∃ K, ∀ k, K ≤ k → laws_heldTruckS.f k (rampT a n) a = some (a + 3 * (n : Int)) := by
  have h := ev_loop (F := fun k i => laws_heldTruckS.l0 k (rampT a n) (a + 3 * (i : Int)) (i : Int)) (n := n) (res := fun _ => a + 3 * (n : Int))
    (ev_suc 0 fun k _ => by simp only [laws_heldTruckS.l0]; rw [if_neg (by simp [rampT_length])])
    (fun i hi K hK => ev_suc K fun k hk => by
      have h2 := hK k hk
      have e : rd_T80 (rampT a n) (i : Int) = ⟨a + 3 * (i : Int), a + 3 * (i : Int) + 1, a + 3 * (i : Int) + 1 + 1⟩ := by
        rw [rdT_natM _ _ (by rw [rampT_length]; exact hi)]
        simp [rampT]
      simp only [laws_heldTruckS.l0]
      rw [if_pos (by rw [rampT_length]; omega), if_pos (by omega), e, w64s (by omega), w64 (x := a + 3 * (i : Int) + 1) (by omega) (by omega), w64 (x := a + 3 * (i : Int) + 1 + 1) (by omega) (by omega), w64 (x := a + 3 * (i : Int) + 1 + 1 + 1) (by omega) (by omega)]
      simp only [if_true]
      rw [show a + 3 * ((i + 1 : Nat) : Int) = a + 3 * (i : Int) + 1 + 1 + 1 from by omega] at h2
      exact h2) 0 (Nat.zero_le _)
  obtain ⟨K, h⟩ := h
  exact ⟨K, fun k hk => by unfold laws_heldTruckS.f; have := h k hk; simpa using this⟩
/-- What the marks leave in rows. -/
def rampR (a : Int) : List (List Int) → List (List Int)
  | [] => []
  | x :: l => ramp a x.length :: rampR (a + (x.length : Int)) l
def rampE (a : Int) : List (List Int) → Int
  | [] => a
  | x :: l => rampE (a + (x.length : Int)) l
theorem rampE_bounds : ∀ (l : List (List Int)) (a : Int), a ≤ rampE a l ∧ ((∀ x ∈ l, x.length ≤ 1048576) → rampE a l ≤ a + 1048576 * (l.length : Int))
  | [], a => ⟨Int.le_refl _, fun _ => by simp [rampE]⟩
  | x :: l, a => by
    have h := rampE_bounds l (a + (x.length : Int))
    refine ⟨?_, fun hx => ?_⟩
    · simp only [rampE]; omega
    · have h1 := h.2 (fun y hy => hx y (List.mem_cons_of_mem _ hy))
      have h2 := hx x (List.mem_cons_self ..)
      simp only [rampE, List.length_cons]
      omega
theorem markRows_ev (l : List (List Int)) : ∀ (u : List (List Int)) (a : Int), u.length + l.length ≤ 1048576 → (∀ x ∈ l, x.length ≤ 1048576) → 0 ≤ a → a + 1048576 * (l.length : Int) ≤ 2000000000000000 → ∃ K, ∀ k, K ≤ k → laws_markIntSS.l0 k (u ++ l) a (u.length : Int) = some (rampE a l, u ++ rampR a l) := by
  induction l with
  | nil => intro u a h _ _ _; exact ev_suc 0 fun k _ => by simp only [laws_markIntSS.l0]; rw [if_neg (by simp)]; simp [rampE, rampR]
  | cons x l ih =>
    intro u a hu hx h0 h1
    have hxl := hx x (List.mem_cons_self ..)
    simp only [List.length_cons] at hu h1
    obtain ⟨K1, e1⟩ := markIntS_ev x hxl a (by omega)
    obtain ⟨K2, e2⟩ := ih (u ++ [ramp a x.length]) (a + (x.length : Int)) (by simp; omega) (fun y hy => hx y (List.mem_cons_of_mem _ hy)) (by omega) (by omega)
    refine ev_suc (max K1 K2) fun k hk => ?_
    have er : rd_L2 (u ++ x :: l) (u.length : Int) = x := by simp [rd_L2, List.getD_eq_getElem?_getD]
    simp only [laws_markIntSS.l0]
    rw [if_pos (by simp; omega), if_pos (by omega), er, e1 k (by omega)]
    simp only [Option.bind_some, Int.toNat_natCast]
    rw [w64s (by omega), List.set_append_right _ _ (Nat.le_refl _), Nat.sub_self, List.set_cons_zero]
    have h3 := e2 k (by omega)
    simp only [List.append_assoc, List.singleton_append, List.length_append, List.length_singleton] at h3
    rw [h3]
    simp [rampE, rampR]
theorem heldRows_ev (l : List (List Int)) : ∀ (u : List (List Int)) (a : Int), u.length + l.length ≤ 1048576 → (∀ x ∈ l, x.length ≤ 1048576) → 0 ≤ a → a + 1048576 * (l.length : Int) ≤ 2000000000000000 → ∃ K, ∀ k, K ≤ k → laws_heldIntSS.l0 k (u ++ rampR a l) a (u.length : Int) = some (rampE a l) := by
  induction l with
  | nil => intro u a h _ _ _; exact ev_suc 0 fun k _ => by simp only [laws_heldIntSS.l0]; rw [if_neg (by simp [rampR])]; simp [rampE]
  | cons x l ih =>
    intro u a hu hx h0 h1
    have hxl := hx x (List.mem_cons_self ..)
    simp only [List.length_cons] at hu h1
    obtain ⟨K1, e1⟩ := heldIntS_ev x.length hxl a (by omega)
    obtain ⟨K2, e2⟩ := ih (u ++ [ramp a x.length]) (a + (x.length : Int)) (by simp; omega) (fun y hy => hx y (List.mem_cons_of_mem _ hy)) (by omega) (by omega)
    refine ev_suc (max K1 K2) fun k hk => ?_
    have er : rd_L2 (u ++ ramp a x.length :: rampR (a + (x.length : Int)) l) (u.length : Int) = ramp a x.length := by simp [rd_L2, List.getD_eq_getElem?_getD]
    simp only [rampR]
    simp only [laws_heldIntSS.l0]
    rw [if_pos (by simp; omega), if_pos (by omega), er, e1 k (by omega)]
    simp only [Option.bind_some]
    rw [if_neg (by omega), w64s (by omega)]
    have h3 := e2 k (by omega)
    simp only [List.append_assoc, List.singleton_append, List.length_append, List.length_singleton] at h3
    rw [h3]
    simp [rampE]
/-- A yard that is marked is held. -/
theorem markedYard_ev (a b c : List Int) (d e : Int) (tr : List S80) (ws : List (List Int)) (ln : List Int) (ti du id_ : Int) (ha : a.length ≤ 1048576) (hb : b.length ≤ 1048576) (hc : c.length ≤ 1048576) (ht : tr.length ≤ 1048576) (hw : ws.length ≤ 1048576) (hwx : ∀ x ∈ ws, x.length ≤ 1048576) (hl : ln.length ≤ 1048576) :
    ∃ (m1 m2 m3 m4 : Int) (h0 h1 h2 : List Int) (h5 : List S80) (h6 : List (List Int)) (h7 : List Int), 0 ≤ m4 ∧ ∃ K, ∀ k, K ≤ k → laws_markFleet.f k a b c d e 1 = some (m1, h0, h1, h2) ∧ laws_markTruckS.f k tr m1 = some (m2, h5) ∧ laws_markIntSS.f k ws m2 = some (m3, h6) ∧ laws_markIntS.f k ln m3 = some (m4, h7) ∧ laws_heldYard.f k h0 h1 h2 d e h5 h6 h7 ti du id_ 1 = some m4 := by
  obtain ⟨K1, e1⟩ := markIntS_ev a ha 1 (by omega)
  obtain ⟨K2, e2⟩ := markIntS_ev b hb (1 + (a.length : Int)) (by omega)
  obtain ⟨K3, e3⟩ := markIntS_ev c hc (1 + (a.length : Int) + (b.length : Int)) (by omega)
  obtain ⟨K4, e4⟩ := heldIntS_ev a.length ha 1 (by omega)
  obtain ⟨K5, e5⟩ := heldIntS_ev b.length hb (1 + (a.length : Int)) (by omega)
  obtain ⟨K6, e6⟩ := heldIntS_ev c.length hc (1 + (a.length : Int) + (b.length : Int)) (by omega)
  obtain ⟨K7, e7⟩ := markTruckR_ev tr ht (1 + (a.length : Int) + (b.length : Int) + (c.length : Int)) (by omega) (by omega)
  obtain ⟨K8, e8⟩ := heldTruckR_ev tr.length ht (1 + (a.length : Int) + (b.length : Int) + (c.length : Int)) (by omega) (by omega)
  obtain ⟨K9, e9⟩ := markRows_ev ws [] (1 + (a.length : Int) + (b.length : Int) + (c.length : Int) + 3 * (tr.length : Int)) (by simpa using hw) hwx (by omega) (by omega)
  obtain ⟨K10, e10⟩ := heldRows_ev ws [] (1 + (a.length : Int) + (b.length : Int) + (c.length : Int) + 3 * (tr.length : Int)) (by simpa using hw) hwx (by omega) (by omega)
  have hE := rampE_bounds ws (1 + (a.length : Int) + (b.length : Int) + (c.length : Int) + 3 * (tr.length : Int))
  have hE2 := hE.2 hwx
  generalize hm3 : rampE (1 + (a.length : Int) + (b.length : Int) + (c.length : Int) + 3 * (tr.length : Int)) ws = m3 at *
  obtain ⟨K11, e11⟩ := markIntS_ev ln hl m3 (by omega)
  obtain ⟨K12, e12⟩ := heldIntS_ev ln.length hl m3 (by omega)
  refine ⟨_, _, _, _, ramp 1 a.length, ramp (1 + (a.length : Int)) b.length, ramp (1 + (a.length : Int) + (b.length : Int)) c.length, _, _, _, ?_, K1 + K2 + K3 + K4 + K5 + K6 + K7 + K8 + K9 + K10 + K11 + K12, fun k hk => ⟨?_, e7 k (by omega), (by unfold laws_markIntSS.f; simpa using e9 k (by omega)), e11 k (by omega), ?_⟩⟩
  · omega
  · simp (disch := omega) only [laws_markFleet.f, e1, e2, e3, Option.bind_some]
  · have q1 := e4 k (by omega)
    have q2 := e5 k (by omega)
    have q3 := e6 k (by omega)
    have q4 := e8 k (by omega)
    have q5 : laws_heldIntSS.f k (rampR (1 + (a.length : Int) + (b.length : Int) + (c.length : Int) + 3 * (tr.length : Int)) ws) (1 + (a.length : Int) + (b.length : Int) + (c.length : Int) + 3 * (tr.length : Int)) = some m3 := by
      unfold laws_heldIntSS.f
      simpa using e10 k (by omega)
    have q6 := e12 k (by omega)
    unfold laws_heldYard.f laws_heldFleet.f
    rw [q1]
    try simp only [Option.bind_some]
    rw [if_neg (by omega), q2]
    try simp only [Option.bind_some]
    rw [if_neg (by omega), q3]
    try simp only [Option.bind_some]
    rw [if_neg (by omega)]
    try simp only [Option.bind_some]
    rw [if_neg (by omega), q4]
    try simp only [Option.bind_some]
    rw [if_neg (by omega)]
    try simp only [List.nil_append]
    rw [q5]
    try simp only [Option.bind_some]
    rw [if_neg (by omega), q6]
    try simp only [Option.bind_some]
    rw [if_neg (by omega)]
/-- Both make the same yard. -/
theorem newYard_l0 (a b c : List Int) (d e : Int) (n : Nat) (hn : n = a.length) (h1 : 1 ≤ n) (h4 : n ≤ 4) (T : Nat) (hT : T ≤ 8) : ∀ (dd i : Nat), i + dd = T → ∀ (t : List S80) (W : List (List Int)), t.length = i → W.length = n → (∀ x ∈ W, x.length ≤ i) → ∃ (t' : List S80) (W' : List (List Int)), t'.length = T ∧ W'.length = n ∧ (∀ x ∈ W', x.length ≤ T) ∧ ∀ K, dd < K → spec_flNew.l0 K (T : Int) (n : Int) (i : Int) a b c d e t W 0 0 0 = some (a, b, c, d, e, t', W', [], 0, 0, 0) ∧ impl_newYard.l0 K (T : Int) (i : Int) a b c d e a b c d e t W 0 0 0 = some (a, b, c, d, e, t', W', [], 0, 0, 0) := by
  intro dd
  induction dd with
  | zero =>
    intro i hi t W ht hW hx
    refine ⟨t, W, by omega, hW, fun x h => by have := hx x h; omega, fun K hK => ?_⟩
    obtain ⟨K, rfl⟩ : ∃ j, K = j + 1 := ⟨K - 1, by omega⟩
    simp only [spec_flNew.l0, impl_newYard.l0]
    rw [if_neg (by omega), if_neg (by omega)]
    exact ⟨rfl, rfl⟩
  | succ dd ih =>
    intro i hi t W ht hW hx
    have em : Int.tmod (i : Int) (n : Int) = ((i % n : Nat) : Int) := by rw [Int.tmod_eq_emod_of_nonneg (by omega), Int.natCast_emod]
    have hlt : i % n < n := Nat.mod_lt _ (by omega)
    have er : rd_L2 W ((i % n : Nat) : Int) = W[i % n]'(by omega) := rdLL_natY W (i % n) (by omega)
    have hxr := hx (W[i % n]'(by omega)) (List.getElem_mem _)
    obtain ⟨t', W', q1, q2, q3, q4⟩ := ih (i + 1) (by omega) (t ++ [⟨0, ((i % n : Nat) : Int), 0⟩]) (W.set (i % n) (W[i % n]'(by omega) ++ [(i : Int)])) (by simp [ht]) (by simp [hW]) (by
      intro x hm
      rcases List.mem_or_eq_of_mem_set hm with h | h
      · have := hx x h; omega
      · rw [h]; simp; omega)
    refine ⟨t', W', q1, q2, q3, fun K hK => ?_⟩
    obtain ⟨K, rfl⟩ : ∃ j, K = j + 1 := ⟨K - 1, by omega⟩
    have h := q4 K (by omega)
    simp only [spec_flNew.l0, impl_newYard.l0]
    rw [← hn, em, er, Int.toNat_natCast, w64s (by omega)]
    rw [if_pos (by omega), if_neg (by omega), if_pos (by omega), if_pos (by omega), if_pos (by omega), if_pos (by omega)]
    rw [if_pos (by omega), if_neg (by omega), if_pos (by omega), if_pos (by omega), if_pos (by omega), if_pos (by omega)]
    exact h
theorem newYard_ev (a b c : List Int) (d e m : Int) (ha : a.length ≤ 1048576) (hb : b.length ≤ 1048576) (hc : c.length ≤ 1048576) : ∃ (y0 y1 y2 : List Int) (b3 b4 : Int) (y5 : List S80) (y6 : List (List Int)) (y7 : List Int) (g : Bool), y0.length ≤ 4 ∧ y1.length ≤ 1048576 ∧ y2.length ≤ 1048576 ∧ y5.length ≤ 8 ∧ y6.length ≤ 4 ∧ (∀ x ∈ y6, x.length ≤ 8) ∧ y7.length ≤ 0 ∧ (g = true → fleetOk a b c d e = true ∧ 1 ≤ m ∧ m ≤ 8 ∧ y0 = a ∧ y1 = b ∧ y2 = c ∧ b3 = d ∧ b4 = e ∧ y5.length = m.toNat) ∧ ∃ K, ∀ k, K ≤ k → spec_NewYard.f k a b c d e m = some (y0, y1, y2, b3, b4, y5, y6, y7, 0, 0, 0, g) ∧ impl_NewYard.f k a b c d e m = some (y0, y1, y2, b3, b4, y5, y6, y7, 0, 0, 0, g) := by
  obtain ⟨K1, e1⟩ := flFleet_ev a b c d e ha hb hc
  obtain ⟨K2, e2⟩ := implIsFleet_ev a b c d e ha hb hc
  by_cases h : fleetOk a b c d e = true
  · have F := (fleetOk_iff a b c d e).1 h
    by_cases hm : 1 ≤ m ∧ m ≤ 8
    · obtain ⟨T, rfl⟩ : ∃ T : Nat, m = (T : Int) := ⟨m.toNat, by omega⟩
      have hn := F.n
      have hb2 : b.length = a.length := by have := F; simp only [fleetOk, timesOk, Bool.and_eq_true, decide_eq_true_eq] at h; exact h.2.2.1.1
      have hc2 : c.length = a.length := by simp only [fleetOk, timesOk, Bool.and_eq_true, decide_eq_true_eq] at h; exact h.2.2.2.1.1
      obtain ⟨t', W', q1, q2, q3, q4⟩ := newYard_l0 a b c d e a.length rfl (by omega) (by omega) T (by omega) T 0 (by omega) [] (List.replicate a.length []) rfl (by simp) (by simp)
      refine ⟨a, b, c, d, e, t', W', [], true, by omega, hb, hc, by omega, by omega, fun x hx => by have := q3 x hx; omega, by simp, fun _ => ⟨h, by omega, by omega, rfl, rfl, rfl, rfl, rfl, by omega⟩, K1 + K2 + 9, fun k hk => ?_⟩
      have q5 := q4 k (by omega)
      have pa : a.length < 17592186044416 := by omega
      have pb : b.length < 17592186044416 := by omega
      have pc : c.length < 17592186044416 := by omega
      have p0 : (0 : Int) ≤ (a.length : Int) := by omega
      have p1 : a.length ≤ 11728124029610 := by omega
      unfold spec_NewYard.f impl_NewYard.f spec_flNew.f impl_newYard.f impl_copyFleet.f spec_l1Own.f
      rw [e1 k (by omega), e2 k (by omega), h]
      simp only [Option.bind_some, if_true, l1In_eq]
      have n1 : ¬ ((T : Int) < 1) := by omega
      have n2 : ¬ ((T : Int) > 8) := by omega
      rw [(inr_iff _ _ _).2 hm]
      simp only [if_true, if_neg n1, if_neg n2, Option.bind_some, List.nil_append, List.length_nil, Nat.zero_add, Int.toNat_natCast, pa, pb, pc, p0, p1]
      have z0 : ((0 : Nat) : Int) = 0 := rfl
      rw [z0] at q5
      rw [q5.1, q5.2]
      exact ⟨rfl, rfl⟩
    · refine ⟨[], [], [], 0, 0, [], [], [], false, by simp, by simp, by simp, by simp, by simp, by simp, by simp, fun x => by simp at x, K1 + K2, fun k hk => ?_⟩
      unfold spec_NewYard.f impl_NewYard.f
      rw [e1 k (by omega), e2 k (by omega), h]
      simp only [Option.bind_some, if_true, l1In_eq]
      rw [(inr_false _ _ _).2 hm]
      refine ⟨by simp, ?_⟩
      by_cases h1 : m < 1
      · rw [if_pos h1]
      · rw [if_neg h1, if_pos (by omega)]
  · refine ⟨[], [], [], 0, 0, [], [], [], false, by simp, by simp, by simp, by simp, by simp, by simp, by simp, fun x => by simp at x, K1 + K2, fun k hk => ?_⟩
    unfold spec_NewYard.f impl_NewYard.f
    rw [e1 k (by omega), e2 k (by omega), Bool.eq_false_iff.mpr h]
    simp
theorem FnExactNewYard (a b c : List Int) (d e m : Int) (ha : a.length ≤ maxLen) (_ : ∀ z ∈ a, (Lit.int .i64 z).wf = true) (hb : b.length ≤ maxLen) (_ : ∀ z ∈ b, (Lit.int .i64 z).wf = true) (hc : c.length ≤ maxLen) (_ : ∀ z ∈ c, (Lit.int .i64 z).wf = true) (_ : (Lit.int .i64 d).wf = true) (_ : (Lit.int .i64 e).wf = true) (_ : (Lit.int .i64 m).wf = true) : ∃ k, MFnExactNewYard.Told k a b c d e m := by
  obtain ⟨s, h0, hs⟩ := szFleet_ev a b c d e 1048576 (by omega) ha hb hc
  by_cases hneg : s < 0
  · exact ⟨0, .inl ⟨s, h0, hneg⟩⟩
  · have hs := hs (by omega)
    have b1 : a.length ≤ 1048576 := by omega
    have b2 : b.length ≤ 1048576 := by omega
    have b3 : c.length ≤ 1048576 := by omega
    obtain ⟨K1, h1⟩ := toFleet_ev a b c d e b1 b2 b3
    obtain ⟨y0, y1, y2, g3, g4, y5, y6, y7, g, l0, l1, l2, l5, l6, l6x, l7, _, K2, h2⟩ := newYard_ev a b c d e m b1 b2 b3
    obtain ⟨K3, h3⟩ := eqYard_ev y0 y1 y2 g3 g4 y5 y6 y7 0 0 0 (by omega) l1 l2 (by omega) (by omega) (fun x hx => by have := l6x x hx; omega) (by omega)
    obtain ⟨K4, h4⟩ := eqFleet_ev a b c d e b1 b2 b3
    obtain ⟨f0, f1, f2, K5, h5⟩ := markFleet_ev a b c d e b1 b2 b3
    obtain ⟨m1, m2, m3, m4, z0, z1, z2, z5, z6, z7, p4, K6, h6⟩ := markedYard_ev y0 y1 y2 g3 g4 y5 y6 y7 0 0 0 (by omega) l1 l2 (by omega) (by omega) (fun x hx => by have := l6x x hx; omega) (by omega)
    have h6 := h6 (K1 + K2 + K3 + K4 + K5 + K6) (by omega)
    have h2 := h2 (K1 + K2 + K3 + K4 + K5 + K6) (by omega)
    exact ⟨K1 + K2 + K3 + K4 + K5 + K6, .inr ⟨s, _, m1, m2, m3, m4, g3, g4, 0, 0, 0, g, f0, f1, f2, y0, y1, y2, y7, z0, z1, z2, z7, y5, z5, y6, z6, h0, h1 _ (by omega), h2.1, h2.2, h3 _ (by omega), h4 _ (by omega), h5 _ (by omega), h6.1, h6.2.1, h6.2.2.1, h6.2.2.2.1, h6.2.2.2.2, hneg, by omega, by omega⟩⟩

end Go.Proofs.Ytikbfnbfbpnmjaa.Pure
