/- THE PURE SIDE OF FnExactFirstComeMatch: the printed functions of the reference and of the program give the same results. Plain Lean: no memory and no Go. -/
import Derived.Test.YtjipboafhakjfaaMFnExactFirstComeMatch
import Derived.OpenShut
namespace Go.Proofs.Ytjipboafhakjfaa.Pure
open Go.RowKit Go.Proofs.Ytjipboafhakjfaa.PFnExactFirstComeMatch Go.Proofs.Ytjipboafhakjfaa.MFnExactFirstComeMatch Go.Proofs.YtjipboafhakjfaaW.PrintWords Go.Proofs.YtjipboafhakjfaaW.PrintLast Go.Proofs.YtjipboafhakjfaaW.PrintMore
set_option linter.unusedVariables false
set_option linter.unusedSimpArgs false

theorem w64 {x : Int} (h1 : -9223372036854775808 ≤ x) (h2 : x ≤ 9223372036854775807) : wrap64 x = x := by unfold wrap64; omega
theorem w64s {i : Nat} (h : i ≤ 9000000000000000000) : wrap64 ((i : Int) + 1) = ((i + 1 : Nat) : Int) := by rw [w64 (by omega) (by omega)]; omega
theorem rd_nat (l : List Int) (i : Nat) (h : i < l.length) : rd l (i : Int) = l[i] := by simp [rd, List.getD_eq_getElem?_getD, h]
theorem wf64 {x : Int} (h : (Lit.int .i64 x).wf = true) : -9223372036854775808 ≤ x ∧ x ≤ 9223372036854775807 := by
  have := bounds_i64 h
  omega
def inr (lo hi x : Int) : Bool := decide (lo ≤ x) && decide (x ≤ hi)
theorem inr_iff (lo hi x : Int) : inr lo hi x = true ↔ lo ≤ x ∧ x ≤ hi := by simp [inr]
theorem inr_false (lo hi x : Int) : inr lo hi x = false ↔ ¬ (lo ≤ x ∧ x ≤ hi) := by rw [← inr_iff, Bool.not_eq_true]
theorem mx_of_lt {a b : Int} (h : a < b) : mx a b = b := if_pos h
theorem mx_of_ge {a b : Int} (h : b ≤ a) : mx a b = a := if_neg (by omega)
theorem mx_spec (a b : Int) : a ≤ mx a b ∧ b ≤ mx a b ∧ (mx a b = a ∨ mx a b = b) := by unfold mx; split <;> omega
theorem l1In_eq (a b c : Int) : spec_l1In.f a b c = some (inr b c a) := by
  unfold spec_l1In.f inr
  by_cases h : a ≥ b
  · rw [if_pos h]; simp [show b ≤ a from h]
  · rw [if_neg h]; simp [show ¬ b ≤ a from h]
theorem l1All_l0 (lo hi : Int) (l : List Int) (hl : l.length ≤ 9000000000000000000) : ∀ (d k i : Nat), i + d = l.length → d < k → spec_l1All.l0 k lo hi l (l.length : Int) (i : Int) = some ((l.drop i).all (inr lo hi)) := by
  intro d
  induction d with
  | zero =>
    intro k i hi' hk
    obtain ⟨k, rfl⟩ : ∃ m, k = m + 1 := ⟨k - 1, by omega⟩
    simp only [spec_l1All.l0]
    rw [if_neg (by omega), List.drop_of_length_le (by omega)]; rfl
  | succ d ih =>
    intro k i hi' hk
    obtain ⟨k, rfl⟩ : ∃ m, k = m + 1 := ⟨k - 1, by omega⟩
    have hlt : i < l.length := by omega
    simp only [spec_l1All.l0]
    rw [if_pos (by omega), if_pos (by omega), if_pos (by omega), l1In_eq, List.drop_eq_getElem_cons hlt, List.all_cons, rd_nat l i hlt, w64s (by omega), ih k (i + 1) (by omega) (by omega)]
    simp only [Option.bind_some]
    by_cases h : inr lo hi l[i] = true
    · rw [if_pos h, h, Bool.true_and]
    · rw [if_neg h, Bool.eq_false_iff.mpr h, Bool.false_and]
theorem l1All_eq (lo hi : Int) (l : List Int) (hl : l.length ≤ 9000000000000000000) (k : Nat) (hk : l.length < k) : spec_l1All.f k l lo hi = some (l.all (inr lo hi)) := by
  unfold spec_l1All.f
  exact l1All_l0 lo hi l hl l.length k 0 (by omega) hk
theorem eqIntS_l0 (l : List Int) (hl : l.length ≤ 9000000000000000000) : ∀ (d k i : Nat), i + d = l.length → d < k → laws_eqIntS.l0 k l l (i : Int) = some true := by
  intro d
  induction d with
  | zero =>
    intro k i hi' hk
    obtain ⟨k, rfl⟩ : ∃ m, k = m + 1 := ⟨k - 1, by omega⟩
    simp only [laws_eqIntS.l0]
    rw [if_neg (by omega)]
  | succ d ih =>
    intro k i hi' hk
    obtain ⟨k, rfl⟩ : ∃ m, k = m + 1 := ⟨k - 1, by omega⟩
    simp only [laws_eqIntS.l0]
    rw [if_pos (by omega), if_pos (by omega), if_pos (by omega), if_pos trivial, w64s (by omega)]
    exact ih k (i + 1) (by omega) (by omega)
theorem eqIntS_self (l : List Int) (hl : l.length ≤ 9000000000000000000) (k : Nat) (hk : l.length < k) : laws_eqIntS.f k l l = some true := by
  unfold laws_eqIntS.f
  rw [if_pos rfl]
  exact eqIntS_l0 l hl l.length k 0 (by omega) hk
/-- What 'mark' writes: numbers in their order. -/
def ramp (a : Int) (n : Nat) : List Int := (List.range n).map fun (i : Nat) => a + (i : Int)
theorem ramp_length (a : Int) (n : Nat) : (ramp a n).length = n := by simp [ramp]
theorem ramp_succ (a : Int) (n : Nat) : ramp a (n + 1) = ramp a n ++ [a + (n : Int)] := by simp [ramp, List.range_succ]
theorem ramp_at (a : Int) (n i : Nat) (h : i < n) : rd (ramp a n) (i : Int) = a + (i : Int) := by
  rw [rd_nat _ _ (by rw [ramp_length]; exact h)]
  simp [ramp]
theorem markIntS_l0 (a : Int) (ha : 0 ≤ a ∧ a ≤ 1000000000000000000) (l : List Int) (hl : l.length ≤ 1000000000000000000) : ∀ (d k i : Nat), i + d = l.length → d < k → laws_markIntS.l0 k (ramp a i ++ l.drop i) (a + (i : Int)) (i : Int) = some (a + (l.length : Int), ramp a l.length) := by
  intro d
  induction d with
  | zero =>
    intro k i hi' hk
    obtain ⟨k, rfl⟩ : ∃ m, k = m + 1 := ⟨k - 1, by omega⟩
    obtain rfl : i = l.length := by omega
    simp only [laws_markIntS.l0]
    rw [if_neg (by simp [ramp_length]), List.drop_of_length_le (Nat.le_refl _), List.append_nil]
  | succ d ih =>
    intro k i hi' hk
    obtain ⟨k, rfl⟩ : ∃ m, k = m + 1 := ⟨k - 1, by omega⟩
    have hlt : i < l.length := by omega
    simp only [laws_markIntS.l0]
    rw [if_pos (by simp [ramp_length]; omega), if_pos (by omega), Int.toNat_natCast, List.drop_eq_getElem_cons hlt]
    rw [List.set_append_right _ _ (by rw [ramp_length]; exact Nat.le_refl _), ramp_length, Nat.sub_self, List.set_cons_zero]
    rw [w64s (by omega), w64 (by omega) (by omega)]
    have h := ih k (i + 1) (by omega) (by omega)
    rw [ramp_succ, List.append_assoc, List.singleton_append, show a + ((i + 1 : Nat) : Int) = a + (i : Int) + 1 from by omega] at h
    exact h
theorem markIntS_eq (a : Int) (ha : 0 ≤ a ∧ a ≤ 1000000000000000000) (l : List Int) (hl : l.length ≤ 1000000000000000000) (k : Nat) (hk : l.length < k) : laws_markIntS.f k l a = some (a + (l.length : Int), ramp a l.length) := by
  unfold laws_markIntS.f
  have h := markIntS_l0 a ha l hl l.length k 0 (by omega) hk
  simpa [ramp] using h
theorem heldIntS_l0 (a : Int) (ha : 0 ≤ a ∧ a ≤ 1000000000000000000) (n : Nat) (hl : n ≤ 1000000000000000000) : ∀ (d k i : Nat), i + d = n → d < k → laws_heldIntS.l0 k (ramp a n) (a + (i : Int)) (i : Int) = some (a + (n : Int)) := by
  intro d
  induction d with
  | zero =>
    intro k i hi' hk
    obtain ⟨k, rfl⟩ : ∃ m, k = m + 1 := ⟨k - 1, by omega⟩
    obtain rfl : i = n := by omega
    simp only [laws_heldIntS.l0]
    rw [if_neg (by rw [ramp_length]; omega)]
  | succ d ih =>
    intro k i hi' hk
    obtain ⟨k, rfl⟩ : ∃ m, k = m + 1 := ⟨k - 1, by omega⟩
    simp only [laws_heldIntS.l0]
    rw [if_pos (by rw [ramp_length]; omega), if_pos (by omega), ramp_at a n i (by omega), if_pos rfl, w64s (by omega), w64 (by omega) (by omega)]
    have h := ih k (i + 1) (by omega) (by omega)
    rw [show a + ((i + 1 : Nat) : Int) = a + (i : Int) + 1 from by omega] at h
    exact h
theorem heldIntS_eq (a : Int) (ha : 0 ≤ a ∧ a ≤ 1000000000000000000) (n : Nat) (hl : n ≤ 1000000000000000000) (k : Nat) (hk : n < k) : laws_heldIntS.f k (ramp a n) a = some (a + (n : Int)) := by
  unfold laws_heldIntS.f
  have h := heldIntS_l0 a ha n hl n k 0 (by omega) hk
  simpa using h

theorem ev_loop {β : Type} {F : Nat → Nat → Option β} {n : Nat} {res : Nat → β} (last : ∃ K, ∀ k, K ≤ k → F k n = some (res n)) (step : ∀ i, i < n → ∀ K, (∀ k, K ≤ k → F k (i + 1) = some (res (i + 1))) → ∃ K, ∀ k, K ≤ k → F k i = some (res i)) : ∀ i, i ≤ n → ∃ K, ∀ k, K ≤ k → F k i = some (res i) := by
  have key : ∀ d i, i + d = n → ∃ K, ∀ k, K ≤ k → F k i = some (res i) := by
    intro d
    induction d with
    | zero => intro i h; obtain rfl : i = n := by omega
              exact last
    | succ d ih =>
      intro i h
      obtain ⟨K, hK⟩ := ih (i + 1) (by omega)
      exact step i (by omega) K hK
  exact fun i h => key (n - i) i (by omega)
/-- One round more. -/
theorem ev_suc {β : Type} {g : Nat → Option β} {r : β} (K : Nat) (h : ∀ k, K ≤ k → g (k + 1) = some r) : ∃ K, ∀ k, K ≤ k → g k = some r :=
  ⟨K + 1, fun k hk => by obtain ⟨k, rfl⟩ : ∃ m, k = m + 1 := ⟨k - 1, by omega⟩; exact h k (by omega)⟩
theorem fill_step {α : Type} (l : List α) (z : α) (i : Nat) (h : i < l.length) : (l.take i ++ List.replicate (l.length - i) z).set i l[i] = l.take (i + 1) ++ List.replicate (l.length - (i + 1)) z := by
  have e : l.length - i = (l.length - (i + 1)) + 1 := by omega
  rw [List.set_append_right _ _ (by rw [List.length_take]; omega), List.length_take, Nat.min_eq_left (by omega), Nat.sub_self, e, List.replicate_succ, List.set_cons_zero, List.take_succ_eq_append_getElem h, List.append_assoc, List.singleton_append]
theorem fill_length {α : Type} (l : List α) (z : α) (i : Nat) (h : i ≤ l.length) : (l.take i ++ List.replicate (l.length - i) z).length = l.length := by
  rw [List.length_append, List.length_take, List.length_replicate]; omega
theorem fill_last {α : Type} (l : List α) (z : α) : l.take l.length ++ List.replicate (l.length - l.length) z = l := by simp
/-- What 'sz' leaves: where it isn't below 0, the row is no longer than that. -/
theorem szIntS_ev (l : List Int) (a : Int) (ha : 0 ≤ a ∧ a ≤ 1048576) (hl : l.length ≤ maxLen) : ∃ r, laws_szIntS.f l a = some r ∧ (0 ≤ r → r = a - l.length) ∧ (r < 0 → a < l.length) := by
  simp only [maxLen] at hl
  unfold laws_szIntS.f
  rw [w64 (by omega) (by omega)]
  by_cases h : a - (l.length : Int) < 0
  · exact ⟨-1, by rw [if_pos h], fun h2 => by omega, fun _ => by omega⟩
  · exact ⟨a - (l.length : Int), by rw [if_neg h], fun _ => rfl, fun h2 => by omega⟩
theorem rdLL_nat (l : List (List Int)) (i : Nat) (h : i < l.length) : rd_L1 l (i : Int) = l[i] := by simp [rd_L1, List.getD_eq_getElem?_getD, h]
theorem szIntSS_ev (l : List (List Int)) (a : Int) (ha : 0 ≤ a ∧ a ≤ 1048576) (hl : l.length ≤ maxLen) (hx : ∀ x ∈ l, x.length ≤ maxLen) : ∃ r, (∃ K, ∀ k, K ≤ k → laws_szIntSS.f k l a = some r) ∧ (0 ≤ r → r ≤ a ∧ (l.length : Int) ≤ a ∧ ∀ x ∈ l, (x.length : Int) ≤ a) := by
  simp only [maxLen] at hl
  by_cases h : a - (l.length : Int) < 0
  · refine ⟨-1, ⟨0, fun k _ => ?_⟩, fun h2 => by omega⟩
    unfold laws_szIntSS.f
    rw [w64 (by omega) (by omega), if_pos h]
  · have key : ∀ d i, i + d = l.length → ∀ b : Int, 0 ≤ b → b ≤ a → ∃ r, (∃ K, ∀ k, K ≤ k → laws_szIntSS.l0 k l b (i : Int) = some r) ∧ (0 ≤ r → r ≤ b ∧ ∀ x ∈ l.drop i, (x.length : Int) ≤ a) := by
      intro d
      induction d with
      | zero =>
        intro i hi b hb hba
        refine ⟨b, ev_suc 0 fun k _ => ?_, fun _ => ⟨by omega, fun x hx => ?_⟩⟩
        · simp only [laws_szIntSS.l0]
          rw [if_neg (by omega)]
        · rw [List.drop_of_length_le (by omega)] at hx
          simp at hx
      | succ d ih =>
        intro i hi b hb hba
        have hlt : i < l.length := by omega
        obtain ⟨r, h1, h2, h3⟩ := szIntS_ev l[i] b (by omega) (hx _ (List.getElem_mem hlt))
        by_cases h4 : r < 0
        · refine ⟨-1, ev_suc 0 fun k _ => ?_, fun h5 => by omega⟩
          simp only [laws_szIntSS.l0]
          rw [if_pos (by omega), if_pos (by omega), rdLL_nat l i hlt, h1]
          simp only [Option.bind_some]
          rw [if_pos h4]
        · have h5 := h2 (by omega)
          obtain ⟨r2, ⟨K, h6⟩, h7⟩ := ih (i + 1) (by omega) r (by omega) (by omega)
          refine ⟨r2, ev_suc K fun k hk => ?_, fun h8 => ⟨by have := (h7 h8).1; omega, fun x hx => ?_⟩⟩
          · simp only [laws_szIntSS.l0]
            rw [if_pos (by omega), if_pos (by omega), rdLL_nat l i hlt, h1]
            simp only [Option.bind_some]
            rw [if_neg h4, w64s (by omega)]
            exact h6 k hk
          · rw [List.drop_eq_getElem_cons hlt] at hx
            rcases List.mem_cons.1 hx with rfl | hx
            · omega
            · exact (h7 h8).2 x hx
    obtain ⟨r, ⟨K, h1⟩, h2⟩ := key l.length 0 (by omega) (a - l.length) (by omega) (by omega)
    refine ⟨r, ⟨K, fun k hk => ?_⟩, fun h3 => ⟨by have := (h2 h3).1; omega, by omega, by simpa using (h2 h3).2⟩⟩
    unfold laws_szIntSS.f
    rw [w64 (by omega) (by omega), if_neg h]
    exact h1 k hk
theorem toIntS_ev (l : List Int) (hl : l.length ≤ 1048576) : ∃ K, ∀ k, K ≤ k → laws_toIntS.f k l = some l := by
  have h := ev_loop (F := fun k i => laws_toIntS.l0 k l (l.take i ++ List.replicate (l.length - i) 0) (i : Int)) (n := l.length) (res := fun _ => l)
    (ev_suc 0 fun k _ => by simp only [laws_toIntS.l0]; rw [if_neg (by omega), fill_last])
    (fun i hi K hK => ev_suc K fun k hk => by
      simp only [laws_toIntS.l0]
      rw [if_pos (by omega), if_pos (by omega), if_pos (by rw [fill_length l 0 i (by omega)]; omega), Int.toNat_natCast, rd_nat l i hi, fill_step l 0 i hi, w64s (by omega)]
      exact hK k hk) 0 (Nat.zero_le _)
  obtain ⟨K, h⟩ := h
  refine ⟨K, fun k hk => ?_⟩
  unfold laws_toIntS.f
  rw [if_pos (by omega), if_pos (by omega), Int.toNat_natCast]
  simpa using h k hk
theorem toIntSS_ev (l : List (List Int)) (hl : l.length ≤ 1048576) (hx : ∀ x ∈ l, x.length ≤ 1048576) : ∃ K, ∀ k, K ≤ k → laws_toIntSS.f k l = some l := by
  have h := ev_loop (F := fun k i => laws_toIntSS.l0 k l (l.take i ++ List.replicate (l.length - i) []) (i : Int)) (n := l.length) (res := fun _ => l)
    (ev_suc 0 fun k _ => by simp only [laws_toIntSS.l0]; rw [if_neg (by omega), fill_last])
    (fun i hi K hK => by
      obtain ⟨K2, h2⟩ := toIntS_ev l[i] (hx _ (List.getElem_mem hi))
      exact ev_suc (max K K2) fun k hk => by
        simp only [laws_toIntSS.l0]
        rw [if_pos (by omega), if_pos (by omega), rdLL_nat l i hi, h2 k (by omega)]
        simp only [Option.bind_some]
        rw [if_pos (by rw [fill_length l [] i (by omega)]; omega), Int.toNat_natCast, fill_step l [] i hi, w64s (by omega)]
        exact hK k (by omega)) 0 (Nat.zero_le _)
  obtain ⟨K, h⟩ := h
  refine ⟨K, fun k hk => ?_⟩
  unfold laws_toIntSS.f
  rw [if_pos (by omega), if_pos (by omega), Int.toNat_natCast]
  simpa using h k hk
theorem eqIntS_ev (l : List Int) (hl : l.length ≤ 1048576) : ∃ K, ∀ k, K ≤ k → laws_eqIntS.f k l l = some true :=
  ⟨l.length + 1, fun k hk => eqIntS_self l (by omega) k (by omega)⟩
theorem eqIntSS_ev (l : List (List Int)) (hl : l.length ≤ 1048576) (hx : ∀ x ∈ l, x.length ≤ 1048576) : ∃ K, ∀ k, K ≤ k → laws_eqIntSS.f k l l = some true := by
  have h := ev_loop (F := fun k i => laws_eqIntSS.l0 k l l (i : Int)) (n := l.length) (res := fun _ => true)
    (ev_suc 0 fun k _ => by simp only [laws_eqIntSS.l0]; rw [if_neg (by omega)])
    (fun i hi K hK => by
      obtain ⟨K2, h2⟩ := eqIntS_ev l[i] (hx _ (List.getElem_mem hi))
      exact ev_suc (max K K2) fun k hk => by
        simp only [laws_eqIntSS.l0]
        rw [if_pos (by omega), if_pos (by omega), if_pos (by omega), rdLL_nat l i hi, h2 k (by omega)]
        simp only [Option.bind_some]
        rw [if_pos trivial, w64s (by omega)]
        exact hK k (by omega)) 0 (Nat.zero_le _)
  obtain ⟨K, h⟩ := h
  refine ⟨K, fun k hk => ?_⟩
  unfold laws_eqIntSS.f
  rw [if_pos rfl]
  exact h k hk
theorem markIntS_ev (l : List Int) (hl : l.length ≤ 1048576) (a : Int) (ha : 0 ≤ a ∧ a ≤ 1000000000000000000) : ∃ K, ∀ k, K ≤ k → laws_markIntS.f k l a = some (a + (l.length : Int), ramp a l.length) :=
  ⟨l.length + 1, fun k hk => markIntS_eq a ha l (by omega) k (by omega)⟩
theorem heldIntS_ev (n : Nat) (hl : n ≤ 1048576) (a : Int) (ha : 0 ≤ a ∧ a ≤ 1000000000000000000) : ∃ K, ∀ k, K ≤ k → laws_heldIntS.f k (ramp a n) a = some (a + (n : Int)) :=
  ⟨n + 1, fun k hk => heldIntS_eq a ha n (by omega) k (by omega)⟩
theorem l1All_ev (lo hi : Int) (l : List Int) (hl : l.length ≤ 1048576) : ∃ K, ∀ k, K ≤ k → spec_l1All.f k l lo hi = some (l.all (inr lo hi)) :=
  ⟨l.length + 1, fun k hk => l1All_eq lo hi l (by omega) k (by omega)⟩

def costsOk (l : List (List Int)) : Bool := (l.all fun x => decide (x.length = l.length) && x.all (inr 0 10000)) && inr 1 7 (l.length : Int)
theorem costsOk_iff (l : List (List Int)) : costsOk l = true ↔ (∀ x ∈ l, x.length = l.length ∧ ∀ z ∈ x, 0 ≤ z ∧ z ≤ 10000) ∧ 1 ≤ l.length ∧ l.length ≤ 7 := by
  simp only [costsOk, Bool.and_eq_true, List.all_eq_true, decide_eq_true_eq, inr_iff]
  constructor
  · rintro ⟨h1, h2, h3⟩
    exact ⟨h1, by omega, by omega⟩
  · rintro ⟨h1, h2, h3⟩
    exact ⟨h1, by omega, by omega⟩
theorem maCosts_ev (l : List (List Int)) (hl : l.length ≤ 1048576) (hx : ∀ x ∈ l, x.length ≤ 1048576) : ∃ K, ∀ k, K ≤ k → spec_maCosts.f k l = some (costsOk l) := by
  have h := ev_loop (F := fun k i => spec_maCosts.l0 k l l (l.length : Int) (i : Int)) (n := l.length) (res := fun i => ((l.drop i).all fun x => decide (x.length = l.length) && x.all (inr 0 10000)) && inr 1 7 (l.length : Int))
    (ev_suc 0 fun k _ => by
      simp only [spec_maCosts.l0]
      rw [if_neg (by omega), l1In_eq, List.drop_of_length_le (Nat.le_refl _)]
      rfl)
    (fun i hi K hK => by
      obtain ⟨K2, h2⟩ := l1All_ev 0 10000 l[i] (hx _ (List.getElem_mem hi))
      exact ev_suc (max K K2) fun k hk => by
        simp only [spec_maCosts.l0]
        rw [if_pos (by omega), if_pos (by omega), if_pos (by omega), rdLL_nat l i hi, List.drop_eq_getElem_cons hi, List.all_cons]
        by_cases h3 : l[i].length = l.length
        · rw [if_pos (by omega), h2 k (by omega), decide_eq_true h3, Bool.true_and]
          simp only [Option.bind_some]
          by_cases h4 : l[i].all (inr 0 10000) = true
          · rw [if_pos h4, h4, Bool.true_and, w64s (by omega)]
            exact hK k (by omega)
          · rw [if_neg h4, Bool.eq_false_iff.mpr h4, Bool.false_and, Bool.false_and]
        · rw [if_neg (by omega), decide_eq_false h3]
          simp only [Bool.false_and]) 0 (Nat.zero_le _)
  exact h
theorem implAreCosts_l1 (l row : List (List Int)) (n i : Int) (c : List Int) (hc : c.length ≤ 1048576) (R : Bool) (K : Nat) (h : ∀ k, K ≤ k → impl_AreCosts.l0 k l row n (wrap64 (i + 1)) = some R) :
    ∃ K, ∀ k, K ≤ k → impl_AreCosts.l1 k l row n i c (c.length : Int) 0 = some (c.all (inr 0 10000) && R) := by
  have h := ev_loop (F := fun k j => impl_AreCosts.l1 k l row n i c (c.length : Int) (j : Int)) (n := c.length) (res := fun j => (c.drop j).all (inr 0 10000) && R)
    (ev_suc K fun k hk => by
      simp only [impl_AreCosts.l1]
      rw [if_neg (by omega), List.drop_of_length_le (Nat.le_refl _), h k hk]
      rfl)
    (fun j hj K hK => ev_suc K fun k hk => by
      simp only [impl_AreCosts.l1]
      rw [if_pos (by omega), if_pos (by omega), if_pos (by omega), rd_nat c j hj, List.drop_eq_getElem_cons hj, List.all_cons]
      by_cases h1 : c[j] < 0
      · rw [if_pos h1, (inr_false _ _ _).2 (by omega)]; rfl
      · rw [if_neg h1]
        by_cases h2 : c[j] > 10000
        · rw [if_pos h2, (inr_false _ _ _).2 (by omega)]; rfl
        · rw [if_neg h2, (inr_iff _ _ _).2 (by omega), w64s (by omega), hK k hk]; rfl) 0 (Nat.zero_le _)
  exact h
theorem implAreCosts_ev (l : List (List Int)) (hl : l.length ≤ 1048576) (hx : ∀ x ∈ l, x.length ≤ 1048576) : ∃ K, ∀ k, K ≤ k → impl_AreCosts.f k l = some (costsOk l) := by
  have h := ev_loop (F := fun k i => impl_AreCosts.l0 k l l (l.length : Int) (i : Int)) (n := l.length) (res := fun i => (l.drop i).all fun x => decide (x.length = l.length) && x.all (inr 0 10000))
    (ev_suc 0 fun k _ => by
      simp only [impl_AreCosts.l0]
      rw [if_neg (by omega), List.drop_of_length_le (Nat.le_refl _)]
      rfl)
    (fun i hi K hK => by
      obtain ⟨K2, h2⟩ := implAreCosts_l1 l l (l.length : Int) (i : Int) l[i] (hx _ (List.getElem_mem hi)) _ K (by rw [w64s (by omega)]; exact hK)
      exact ev_suc K2 fun k hk => by
        simp only [impl_AreCosts.l0]
        rw [if_pos (by omega), if_pos (by omega), if_pos (by omega), rdLL_nat l i hi, List.drop_eq_getElem_cons hi, List.all_cons]
        by_cases h3 : l[i].length = l.length
        · rw [if_pos (by omega), h2 k hk, decide_eq_true h3, Bool.true_and]
        · rw [if_neg (by omega), decide_eq_false h3]
          simp only [Bool.false_and]) 0 (Nat.zero_le _)
  obtain ⟨K, h⟩ := h
  refine ev_suc K fun k hk => ?_
  have hk2 := h k hk
  unfold impl_AreCosts.f costsOk
  by_cases h1 : (l.length : Int) < 1
  · rw [if_pos h1, (inr_false _ _ _).2 (by omega), Bool.and_false]
    simp only [impl_AreCosts.j0]
    rw [if_pos trivial]
  · rw [if_neg h1]
    simp only [impl_AreCosts.j0]
    by_cases h2 : (l.length : Int) > 7
    · rw [if_pos (by simpa using h2), (inr_false _ _ _).2 (by omega), Bool.and_false]
    · rw [if_neg (by simpa using h2), (inr_iff _ _ _).2 (by omega), Bool.and_true]
      exact hk2
theorem l1Has_ev (l : List Int) (hl : l.length ≤ 1048576) (a : Int) : ∃ K, ∀ k, K ≤ k → spec_l1Has.f k l a = some (decide (a ∈ l)) := by
  have h := ev_loop (F := fun k i => spec_l1Has.l0 k a l (l.length : Int) (i : Int)) (n := l.length) (res := fun i => decide (a ∈ l.drop i))
    (ev_suc 0 fun k _ => by
      simp only [spec_l1Has.l0]
      rw [if_neg (by omega), List.drop_of_length_le (Nat.le_refl _)]
      rfl)
    (fun i hi K hK => ev_suc K fun k hk => by
      simp only [spec_l1Has.l0]
      rw [if_pos (by omega), if_pos (by omega), if_pos (by omega), rd_nat l i hi, List.drop_eq_getElem_cons hi]
      by_cases h1 : l[i] = a
      · rw [if_pos h1, h1]; simp
      · rw [if_neg h1, w64s (by omega), hK k hk]
        have h2 : ¬ a = l[i] := fun h => h1 h.symm
        exact congrArg some (decide_eq_decide.2 (by rw [List.mem_cons]; exact ⟨.inr, fun h => h.resolve_left h2⟩))) 0 (Nat.zero_le _)
  exact h
theorem slIndex_ev (l : List Int) (hl : l.length ≤ 1048576) (a : Int) : ∃ r : Int, (∃ K, ∀ k, K ≤ k → slices_Index_int_int.f k l a = some r) ∧ (0 ≤ r ↔ a ∈ l) ∧ r < l.length := by
  have key : ∀ d i, i + d = l.length → ∃ r : Int, (∃ K, ∀ k, K ≤ k → slices_Index_int_int.l0 k l a (l.length : Int) (i : Int) = some r) ∧ (0 ≤ r ↔ a ∈ l.drop i) ∧ (r < l.length) := by
    intro d
    induction d with
    | zero =>
      intro i hi
      refine ⟨-1, ev_suc 0 fun k _ => ?_, ?_, by omega⟩
      · simp only [slices_Index_int_int.l0]
        rw [if_neg (by omega)]
      · rw [List.drop_of_length_le (by omega)]; simp
    | succ d ih =>
      intro i hi
      have hlt : i < l.length := by omega
      by_cases h1 : a = l[i]
      · refine ⟨(i : Int), ev_suc 0 fun k _ => ?_, ?_, by omega⟩
        · simp only [slices_Index_int_int.l0]
          rw [if_pos (by omega), if_pos (by omega), if_pos (by omega), rd_nat l i hlt, if_pos h1]
        · rw [List.drop_eq_getElem_cons hlt, ← h1]
          simp
      · obtain ⟨r, ⟨K, hK⟩, h2, h3⟩ := ih (i + 1) (by omega)
        refine ⟨r, ev_suc K fun k hk => ?_, ?_, h3⟩
        · simp only [slices_Index_int_int.l0]
          rw [if_pos (by omega), if_pos (by omega), if_pos (by omega), rd_nat l i hlt, if_neg h1, w64s (by omega)]
          exact hK k hk
        · rw [h2, List.drop_eq_getElem_cons hlt, List.mem_cons]
          simp [h1]
  obtain ⟨r, h1, h2, h3⟩ := key l.length 0 (by omega)
  exact ⟨r, h1, by simpa using h2, h3⟩
theorem slContains_ev (l : List Int) (hl : l.length ≤ 1048576) (a : Int) : ∃ K, ∀ k, K ≤ k → slices_Contains_int_int.f k l a = some (decide (a ∈ l)) := by
  obtain ⟨r, ⟨K, h1⟩, h2, h3⟩ := slIndex_ev l hl a
  refine ⟨K, fun k hk => ?_⟩
  unfold slices_Contains_int_int.f
  rw [h1 k hk]
  simp only [Option.bind_some]
  congr 1
  exact decide_eq_decide.2 (by rw [← h2])
theorem markIntSS_ev (l : List (List Int)) (hl : l.length ≤ 1048576) (hx : ∀ x ∈ l, x.length ≤ 1048576) : ∀ a : Int, 0 ≤ a → a ≤ 1000000000000 → ∃ (m : Int) (y : List (List Int)), (∃ K, ∀ k, K ≤ k → laws_markIntSS.f k l a = some (m, y)) ∧ 0 ≤ m ∧ m ≤ a + 1048576 * l.length := by
  intro a ha hab
  have key : ∀ d i, i + d = l.length → ∀ (x : List (List Int)) (b : Int), x.length = l.length → x.drop i = l.drop i → a ≤ b → b ≤ a + 1048576 * i → ∃ (m : Int) (y : List (List Int)), (∃ K, ∀ k, K ≤ k → laws_markIntSS.l0 k x b (i : Int) = some (m, y)) ∧ 0 ≤ m ∧ m ≤ a + 1048576 * l.length := by
    intro d
    induction d with
    | zero =>
      intro i hi x b hxl hd hb1 hb2
      refine ⟨b, x, ev_suc 0 fun k _ => ?_, by omega, by omega⟩
      simp only [laws_markIntSS.l0]
      rw [if_neg (by omega)]
    | succ d ih =>
      intro i hi x b hxl hd hb1 hb2
      have hlt : i < l.length := by omega
      have hltx : i < x.length := by omega
      have hd2 := hd
      rw [List.drop_eq_getElem_cons hltx, List.drop_eq_getElem_cons hlt] at hd2
      obtain ⟨he, hd3⟩ := List.cons.inj hd2
      have hxi : x[i].length ≤ 1048576 := by rw [he]; exact hx _ (List.getElem_mem hlt)
      obtain ⟨K1, h1⟩ := markIntS_ev x[i] hxi b (by omega)
      obtain ⟨m, y, ⟨K2, h2⟩, h3, h4⟩ := ih (i + 1) (by omega) (x.set i (ramp b x[i].length)) (b + (x[i].length : Int)) (by rw [List.length_set]; exact hxl) (by rw [List.drop_set_of_lt (by omega)]; exact hd3) (by omega) (by omega)
      refine ⟨m, y, ev_suc (max K1 K2) fun k hk => ?_, h3, h4⟩
      simp only [laws_markIntSS.l0]
      rw [if_pos (by omega), if_pos (by omega), rdLL_nat x i hltx, h1 k (by omega)]
      simp only [Option.bind_some, Int.toNat_natCast]
      rw [w64s (by omega)]
      exact h2 k (by omega)
  obtain ⟨m, y, h1, h2, h3⟩ := key l.length 0 (by omega) l a rfl rfl (by omega) (by omega)
  exact ⟨m, y, h1, h2, h3⟩
/-- Both take the same shovel for each truck. -/
theorem firstCome_both (l : List (List Int)) (hl : l.length ≤ 1048576) (hx : ∀ x ∈ l, x.length = l.length) : ∃ g : List Int, (∃ K, ∀ k, K ≤ k → spec_maFirst.f k l = some g) ∧ (∃ K, ∀ k, K ≤ k → impl_firstComeMatch.f k l = some g) ∧ g.length = l.length := by
  have key : ∀ d i, i + d = l.length → ∀ out : List Int, out.length = i → ∃ g : List Int, (∃ K, ∀ k, K ≤ k → spec_maFirst.l0 k out l (l.length : Int) (i : Int) = some g) ∧ (∃ K, ∀ k, K ≤ k → impl_firstComeMatch.l0 k out l (l.length : Int) (i : Int) = some g) ∧ g.length = l.length := by
    intro d
    induction d with
    | zero =>
      intro i hi out ho
      refine ⟨out, ev_suc 0 fun k _ => ?_, ev_suc 0 fun k _ => ?_, by omega⟩
      · simp only [spec_maFirst.l0]; rw [if_neg (by omega)]
      · simp only [impl_firstComeMatch.l0]; rw [if_neg (by omega)]
    | succ d ih =>
      intro i hi out ho
      have hlt : i < l.length := by omega
      have hlen : l[i].length = l.length := hx _ (List.getElem_mem hlt)
      have inner : ∀ e j, j + e = l.length → ∀ best : Int, best < l.length → ∃ g : List Int, (∃ K, ∀ k, K ≤ k → spec_maFirst.l1 k out l[i] best l (l.length : Int) (i : Int) l[i] (l[i].length : Int) (j : Int) = some g) ∧ (∃ K, ∀ k, K ≤ k → impl_firstComeMatch.l1 k out l[i] best l (l.length : Int) (i : Int) l[i] (l[i].length : Int) (j : Int) = some g) ∧ g.length = l.length := by
        intro e
        induction e with
        | zero =>
          intro j hj best hb
          obtain ⟨g, ⟨K1, h1⟩, ⟨K2, h2⟩, h3⟩ := ih (i + 1) (by omega) (out ++ [best]) (by rw [List.length_append, List.length_singleton, ho])
          refine ⟨g, ev_suc K1 fun k hk => ?_, ev_suc K2 fun k hk => ?_, h3⟩
          · simp only [spec_maFirst.l1]
            rw [if_neg (by omega), if_pos (by omega), w64s (by omega)]
            exact h1 k hk
          · simp only [impl_firstComeMatch.l1]
            rw [if_neg (by omega), if_pos (by omega), w64s (by omega)]
            exact h2 k hk
        | succ e ihe =>
          intro j hj best hb
          have hjl : j < l[i].length := by omega
          obtain ⟨KH, hH⟩ := l1Has_ev out (by omega) (j : Int)
          obtain ⟨KC, hC⟩ := slContains_ev out (by omega) (j : Int)
          obtain ⟨g0, ⟨K1, h1⟩, ⟨K2, h2⟩, h3⟩ := ihe (j + 1) (by omega) best hb
          obtain ⟨g1, ⟨K3, h4⟩, ⟨K4, h5⟩, h6⟩ := ihe (j + 1) (by omega) (j : Int) (by omega)
          by_cases c1 : (j : Int) ∈ out
          · refine ⟨g0, ev_suc (K1 + KH) fun k hk => ?_, ev_suc (K2 + KC) fun k hk => ?_, h3⟩
            · simp only [spec_maFirst.l1]
              rw [if_pos (by omega), if_pos (by omega), if_pos (by omega), hH k (by omega)]
              simp only [Option.bind_some]
              rw [if_pos (decide_eq_true c1), w64s (by omega)]
              exact h1 k (by omega)
            · simp only [impl_firstComeMatch.l1]
              rw [if_pos (by omega), if_pos (by omega), if_pos (by omega), hC k (by omega)]
              simp only [Option.bind_some]
              rw [if_pos (decide_eq_true c1), w64s (by omega)]
              exact h2 k (by omega)
          · by_cases c2 : best < 0
            · refine ⟨g1, ev_suc (K3 + KH) fun k hk => ?_, ev_suc (K4 + KC) fun k hk => ?_, h6⟩
              · simp only [spec_maFirst.l1]
                rw [if_pos (by omega), if_pos (by omega), if_pos (by omega), hH k (by omega)]
                simp only [Option.bind_some]
                rw [if_neg (by simp [c1]), if_pos c2, w64s (by omega)]
                exact h4 k (by omega)
              · simp only [impl_firstComeMatch.l1]
                rw [if_pos (by omega), if_pos (by omega), if_pos (by omega), hC k (by omega)]
                simp only [Option.bind_some]
                rw [if_neg (by simp [c1]), if_pos c2, w64s (by omega)]
                exact h5 k (by omega)
            · by_cases c3 : rd l[i] (j : Int) < rd l[i] best
              · refine ⟨g1, ev_suc (K3 + KH) fun k hk => ?_, ev_suc (K4 + KC) fun k hk => ?_, h6⟩
                · simp only [spec_maFirst.l1]
                  rw [if_pos (by omega), if_pos (by omega), if_pos (by omega), hH k (by omega)]
                  simp only [Option.bind_some]
                  rw [if_neg (by simp [c1]), if_neg c2, if_pos (by omega), if_pos (by omega), if_pos c3, w64s (by omega)]
                  exact h4 k (by omega)
                · simp only [impl_firstComeMatch.l1]
                  rw [if_pos (by omega), if_pos (by omega), if_pos (by omega), hC k (by omega)]
                  simp only [Option.bind_some]
                  rw [if_neg (by simp [c1]), if_neg c2, if_pos (by omega), if_pos (by omega), if_pos c3, w64s (by omega)]
                  exact h5 k (by omega)
              · refine ⟨g0, ev_suc (K1 + KH) fun k hk => ?_, ev_suc (K2 + KC) fun k hk => ?_, h3⟩
                · simp only [spec_maFirst.l1]
                  rw [if_pos (by omega), if_pos (by omega), if_pos (by omega), hH k (by omega)]
                  simp only [Option.bind_some]
                  rw [if_neg (by simp [c1]), if_neg c2, if_pos (by omega), if_pos (by omega), if_neg c3, w64s (by omega)]
                  exact h1 k (by omega)
                · simp only [impl_firstComeMatch.l1]
                  rw [if_pos (by omega), if_pos (by omega), if_pos (by omega), hC k (by omega)]
                  simp only [Option.bind_some]
                  rw [if_neg (by simp [c1]), if_neg c2, if_pos (by omega), if_pos (by omega), if_neg c3, w64s (by omega)]
                  exact h2 k (by omega)
      obtain ⟨g, ⟨K1, h1⟩, ⟨K2, h2⟩, h3⟩ := inner l.length 0 (by omega) (-1) (by omega)
      refine ⟨g, ev_suc K1 fun k hk => ?_, ev_suc K2 fun k hk => ?_, h3⟩
      · simp only [spec_maFirst.l0]
        rw [if_pos (by omega), if_pos (by omega), if_pos (by omega), rdLL_nat l i hlt]
        exact h1 k hk
      · simp only [impl_firstComeMatch.l0]
        rw [if_pos (by omega), if_pos (by omega), if_pos (by omega), rdLL_nat l i hlt]
        exact h2 k hk
  exact key l.length 0 (by omega) [] rfl
theorem FnExactFirstComeMatch (l : List (List Int)) (hl : l.length ≤ maxLen) (hw : ∀ x ∈ l, x.length ≤ maxLen ∧ ∀ z ∈ x, (Lit.int .i64 z).wf = true) : ∃ k, MFnExactFirstComeMatch.Told k l := by
  obtain ⟨r, ⟨K0, h0⟩, hr⟩ := szIntSS_ev l 1048576 (by omega) hl (fun x hx => (hw x hx).1)
  by_cases hneg : r < 0
  · exact ⟨K0, .inl ⟨r, h0 K0 (Nat.le_refl _), hneg⟩⟩
  · have hb := hr (by omega)
    have hl2 : l.length ≤ 1048576 := by omega
    have hx2 : ∀ x ∈ l, x.length ≤ 1048576 := fun x hx => by have := hb.2.2 x hx; omega
    obtain ⟨K1, h1⟩ := toIntSS_ev l hl2 hx2
    obtain ⟨K2, h2⟩ := maCosts_ev l hl2 hx2
    obtain ⟨K3, h3⟩ := implAreCosts_ev l hl2 hx2
    obtain ⟨K4, h4⟩ := eqIntSS_ev l hl2 hx2
    obtain ⟨m, y, ⟨K5, h5⟩, h6, h7⟩ := markIntSS_ev l hl2 hx2 1 (by omega) (by omega)
    obtain ⟨g, b, ⟨K6, h8⟩, ⟨K7, h9⟩, h10⟩ : ∃ (g : List Int) (b : Bool), (∃ K, ∀ k, K ≤ k → spec_FirstComeMatch.f k l = some (g, b)) ∧ (∃ K, ∀ k, K ≤ k → impl_FirstComeMatch.f k l = some (g, b)) ∧ g.length ≤ 7 := by
      by_cases hc : costsOk l = true
      · obtain ⟨q1, q2, q3⟩ := (costsOk_iff l).1 hc
        obtain ⟨g, ⟨K6, h8⟩, ⟨K7, h9⟩, h10⟩ := firstCome_both l hl2 (fun x hx => (q1 x hx).1)
        refine ⟨g, true, ⟨K2 + K6, fun k hk => ?_⟩, ⟨K3 + K7, fun k hk => ?_⟩, by omega⟩
        · unfold spec_FirstComeMatch.f
          rw [h2 k (by omega)]
          simp only [Option.bind_some]
          rw [if_pos hc, h8 k (by omega)]
          rfl
        · unfold impl_FirstComeMatch.f
          rw [h3 k (by omega)]
          simp only [Option.bind_some]
          rw [if_pos hc, h9 k (by omega)]
          rfl
      · refine ⟨[], false, ⟨K2, fun k hk => ?_⟩, ⟨K3, fun k hk => ?_⟩, by simp⟩
        · unfold spec_FirstComeMatch.f
          rw [h2 k (by omega)]
          simp only [Option.bind_some]
          rw [if_neg hc]
        · unfold impl_FirstComeMatch.f
          rw [h3 k (by omega)]
          simp only [Option.bind_some]
          rw [if_neg hc]
    obtain ⟨K8, h11⟩ := eqIntS_ev g (by omega)
    obtain ⟨K9, h12⟩ := markIntS_ev g (by omega) 1 (by omega)
    obtain ⟨K10, h13⟩ := heldIntS_ev g.length (by omega) 1 (by omega)
    refine ⟨K0 + K1 + K2 + K3 + K4 + K5 + K6 + K7 + K8 + K9 + K10, .inr ⟨g, b, r, m, y, 1 + (g.length : Int), ramp 1 g.length, ?_⟩⟩
    exact ⟨h0 _ (by omega), h1 _ (by omega), h8 _ (by omega), h9 _ (by omega), h11 _ (by omega), h4 _ (by omega), h5 _ (by omega), h12 _ (by omega), h13 _ (by omega), hneg, by omega, by omega⟩
end Go.Proofs.Ytjipboafhakjfaa.Pure
