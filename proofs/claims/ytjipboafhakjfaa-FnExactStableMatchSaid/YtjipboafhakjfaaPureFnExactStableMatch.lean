/- THE PURE SIDE OF FnExactStableMatch: the printed functions of the reference and of the program give the same results. Plain Lean: no memory and no Go. -/
import Derived.Test.YtjipboafhakjfaaMFnExactStableMatch
import Derived.OpenShut
namespace Go.Proofs.Ytjipboafhakjfaa.Pure
open Go.RowKit Go.Proofs.Ytjipboafhakjfaa.PFnExactStableMatch Go.Proofs.Ytjipboafhakjfaa.MFnExactStableMatch Go.Proofs.YtjipboafhakjfaaW.PrintWords Go.Proofs.YtjipboafhakjfaaW.PrintLast Go.Proofs.YtjipboafhakjfaaW.PrintMore
set_option linter.unusedVariables false
set_option linter.unusedSimpArgs false

theorem w64 {x : Int} (h1 : -9223372036854775808 ≤ x) (h2 : x ≤ 9223372036854775807) : wrap64 x = x := by unfold wrap64; omega
theorem w64s {i : Nat} (h : i ≤ 9000000000000000000) : wrap64 ((i : Int) + 1) = ((i + 1 : Nat) : Int) := by rw [w64 (by omega) (by omega)]; omega
theorem rd_nat (l : List Int) (i : Nat) (h : i < l.length) : rd l (i : Int) = l[i] := by simp [rd, List.getD_eq_getElem?_getD, h]
theorem wf64 {x : Int} (h : (Lit.int .i64 x).wf = true) : -9223372036854775808 ≤ x ∧ x ≤ 9223372036854775807 := by
  have := bounds_i64 h
  omega
def inr (lo hi x : Int) : Bool := decide (lo ≤ x) && decide (x ≤ hi)
theorem inr_iff (lo hi x : Int) : inr lo hi x = true ↔ lo ≤ x ∧ x ≤ hi := by simp [inr]
theorem inr_false (lo hi x : Int) : inr lo hi x = false ↔ ¬ (lo ≤ x ∧ x ≤ hi) := by rw [← inr_iff, Bool.not_eq_true]
theorem mx_of_lt {a b : Int} (h : a < b) : mx a b = b := if_pos h
theorem mx_of_ge {a b : Int} (h : b ≤ a) : mx a b = a := if_neg (by omega)
theorem mx_spec (a b : Int) : a ≤ mx a b ∧ b ≤ mx a b ∧ (mx a b = a ∨ mx a b = b) := by unfold mx; split <;> omega
theorem l1In_eq (a b c : Int) : spec_l1In.f a b c = some (inr b c a) := by
  unfold spec_l1In.f inr
  by_cases h : a ≥ b
  · rw [if_pos h]; simp [show b ≤ a from h]
  · rw [if_neg h]; simp [show ¬ b ≤ a from h]
theorem l1All_l0 (lo hi : Int) (l : List Int) (hl : l.length ≤ 9000000000000000000) : ∀ (d k i : Nat), i + d = l.length → d < k → spec_l1All.l0 k lo hi l (l.length : Int) (i : Int) = some ((l.drop i).all (inr lo hi)) := by
  intro d
  induction d with
  | zero =>
    intro k i hi' hk
    obtain ⟨k, rfl⟩ : ∃ m, k = m + 1 := ⟨k - 1, by omega⟩
    simp only [spec_l1All.l0]
    rw [if_neg (by omega), List.drop_of_length_le (by omega)]; rfl
  | succ d ih =>
    intro k i hi' hk
    obtain ⟨k, rfl⟩ : ∃ m, k = m + 1 := ⟨k - 1, by omega⟩
    have hlt : i < l.length := by omega
    simp only [spec_l1All.l0]
    rw [if_pos (by omega), if_pos (by omega), if_pos (by omega), l1In_eq, List.drop_eq_getElem_cons hlt, List.all_cons, rd_nat l i hlt, w64s (by omega), ih k (i + 1) (by omega) (by omega)]
    simp only [Option.bind_some]
    by_cases h : inr lo hi l[i] = true
    · rw [if_pos h, h, Bool.true_and]
    · rw [if_neg h, Bool.eq_false_iff.mpr h, Bool.false_and]
theorem l1All_eq (lo hi : Int) (l : List Int) (hl : l.length ≤ 9000000000000000000) (k : Nat) (hk : l.length < k) : spec_l1All.f k l lo hi = some (l.all (inr lo hi)) := by
  unfold spec_l1All.f
  exact l1All_l0 lo hi l hl l.length k 0 (by omega) hk
theorem eqIntS_l0 (l : List Int) (hl : l.length ≤ 9000000000000000000) : ∀ (d k i : Nat), i + d = l.length → d < k → laws_eqIntS.l0 k l l (i : Int) = some true := by
  intro d
  induction d with
  | zero =>
    intro k i hi' hk
    obtain ⟨k, rfl⟩ : ∃ m, k = m + 1 := ⟨k - 1, by omega⟩
    simp only [laws_eqIntS.l0]
    rw [if_neg (by omega)]
  | succ d ih =>
    intro k i hi' hk
    obtain ⟨k, rfl⟩ : ∃ m, k = m + 1 := ⟨k - 1, by omega⟩
    simp only [laws_eqIntS.l0]
    rw [if_pos (by omega), if_pos (by omega), if_pos (by omega), if_pos trivial, w64s (by omega)]
    exact ih k (i + 1) (by omega) (by omega)
theorem eqIntS_self (l : List Int) (hl : l.length ≤ 9000000000000000000) (k : Nat) (hk : l.length < k) : laws_eqIntS.f k l l = some true := by
  unfold laws_eqIntS.f
  rw [if_pos rfl]
  exact eqIntS_l0 l hl l.length k 0 (by omega) hk
/-- What 'mark' writes: numbers in their order. -/
def ramp (a : Int) (n : Nat) : List Int := (List.range n).map fun (i : Nat) => a + (i : Int)
theorem ramp_length (a : Int) (n : Nat) : (ramp a n).length = n := by simp [ramp]
theorem ramp_succ (a : Int) (n : Nat) : ramp a (n + 1) = ramp a n ++ [a + (n : Int)] := by simp [ramp, List.range_succ]
theorem ramp_at (a : Int) (n i : Nat) (h : i < n) : rd (ramp a n) (i : Int) = a + (i : Int) := by
  rw [rd_nat _ _ (by rw [ramp_length]; exact h)]
  simp [ramp]
theorem markIntS_l0 (a : Int) (ha : 0 ≤ a ∧ a ≤ 1000000000000000000) (l : List Int) (hl : l.length ≤ 1000000000000000000) : ∀ (d k i : Nat), i + d = l.length → d < k → laws_markIntS.l0 k (ramp a i ++ l.drop i) (a + (i : Int)) (i : Int) = some (a + (l.length : Int), ramp a l.length) := by
  intro d
  induction d with
  | zero =>
    intro k i hi' hk
    obtain ⟨k, rfl⟩ : ∃ m, k = m + 1 := ⟨k - 1, by omega⟩
    obtain rfl : i = l.length := by omega
    simp only [laws_markIntS.l0]
    rw [if_neg (by simp [ramp_length]), List.drop_of_length_le (Nat.le_refl _), List.append_nil]
  | succ d ih =>
    intro k i hi' hk
    obtain ⟨k, rfl⟩ : ∃ m, k = m + 1 := ⟨k - 1, by omega⟩
    have hlt : i < l.length := by omega
    simp only [laws_markIntS.l0]
    rw [if_pos (by simp [ramp_length]; omega), if_pos (by omega), Int.toNat_natCast, List.drop_eq_getElem_cons hlt]
    rw [List.set_append_right _ _ (by rw [ramp_length]; exact Nat.le_refl _), ramp_length, Nat.sub_self, List.set_cons_zero]
    rw [w64s (by omega), w64 (by omega) (by omega)]
    have h := ih k (i + 1) (by omega) (by omega)
    rw [ramp_succ, List.append_assoc, List.singleton_append, show a + ((i + 1 : Nat) : Int) = a + (i : Int) + 1 from by omega] at h
    exact h
theorem markIntS_eq (a : Int) (ha : 0 ≤ a ∧ a ≤ 1000000000000000000) (l : List Int) (hl : l.length ≤ 1000000000000000000) (k : Nat) (hk : l.length < k) : laws_markIntS.f k l a = some (a + (l.length : Int), ramp a l.length) := by
  unfold laws_markIntS.f
  have h := markIntS_l0 a ha l hl l.length k 0 (by omega) hk
  simpa [ramp] using h
theorem heldIntS_l0 (a : Int) (ha : 0 ≤ a ∧ a ≤ 1000000000000000000) (n : Nat) (hl : n ≤ 1000000000000000000) : ∀ (d k i : Nat), i + d = n → d < k → laws_heldIntS.l0 k (ramp a n) (a + (i : Int)) (i : Int) = some (a + (n : Int)) := by
  intro d
  induction d with
  | zero =>
    intro k i hi' hk
    obtain ⟨k, rfl⟩ : ∃ m, k = m + 1 := ⟨k - 1, by omega⟩
    obtain rfl : i = n := by omega
    simp only [laws_heldIntS.l0]
    rw [if_neg (by rw [ramp_length]; omega)]
  | succ d ih =>
    intro k i hi' hk
    obtain ⟨k, rfl⟩ : ∃ m, k = m + 1 := ⟨k - 1, by omega⟩
    simp only [laws_heldIntS.l0]
    rw [if_pos (by rw [ramp_length]; omega), if_pos (by omega), ramp_at a n i (by omega), if_pos rfl, w64s (by omega), w64 (by omega) (by omega)]
    have h := ih k (i + 1) (by omega) (by omega)
    rw [show a + ((i + 1 : Nat) : Int) = a + (i : Int) + 1 from by omega] at h
    exact h
theorem heldIntS_eq (a : Int) (ha : 0 ≤ a ∧ a ≤ 1000000000000000000) (n : Nat) (hl : n ≤ 1000000000000000000) (k : Nat) (hk : n < k) : laws_heldIntS.f k (ramp a n) a = some (a + (n : Int)) := by
  unfold laws_heldIntS.f
  have h := heldIntS_l0 a ha n hl n k 0 (by omega) hk
  simpa using h

theorem ev_loop {β : Type} {F : Nat → Nat → Option β} {n : Nat} {res : Nat → β} (last : ∃ K, ∀ k, K ≤ k → F k n = some (res n)) (step : ∀ i, i < n → ∀ K, (∀ k, K ≤ k → F k (i + 1) = some (res (i + 1))) → ∃ K, ∀ k, K ≤ k → F k i = some (res i)) : ∀ i, i ≤ n → ∃ K, ∀ k, K ≤ k → F k i = some (res i) := by
  have key : ∀ d i, i + d = n → ∃ K, ∀ k, K ≤ k → F k i = some (res i) := by
    intro d
    induction d with
    | zero => intro i h; obtain rfl : i = n := by omega
              exact last
    | succ d ih =>
      intro i h
      obtain ⟨K, hK⟩ := ih (i + 1) (by omega)
      exact step i (by omega) K hK
  exact fun i h => key (n - i) i (by omega)
/-- One round more. -/
theorem ev_suc {β : Type} {g : Nat → Option β} {r : β} (K : Nat) (h : ∀ k, K ≤ k → g (k + 1) = some r) : ∃ K, ∀ k, K ≤ k → g k = some r :=
  ⟨K + 1, fun k hk => by obtain ⟨k, rfl⟩ : ∃ m, k = m + 1 := ⟨k - 1, by omega⟩; exact h k (by omega)⟩
theorem fill_step {α : Type} (l : List α) (z : α) (i : Nat) (h : i < l.length) : (l.take i ++ List.replicate (l.length - i) z).set i l[i] = l.take (i + 1) ++ List.replicate (l.length - (i + 1)) z := by
  have e : l.length - i = (l.length - (i + 1)) + 1 := by omega
  rw [List.set_append_right _ _ (by rw [List.length_take]; omega), List.length_take, Nat.min_eq_left (by omega), Nat.sub_self, e, List.replicate_succ, List.set_cons_zero, List.take_succ_eq_append_getElem h, List.append_assoc, List.singleton_append]
theorem fill_length {α : Type} (l : List α) (z : α) (i : Nat) (h : i ≤ l.length) : (l.take i ++ List.replicate (l.length - i) z).length = l.length := by
  rw [List.length_append, List.length_take, List.length_replicate]; omega
theorem fill_last {α : Type} (l : List α) (z : α) : l.take l.length ++ List.replicate (l.length - l.length) z = l := by simp
/-- What 'sz' leaves: where it isn't below 0, the row is no longer than that. -/
theorem szIntS_ev (l : List Int) (a : Int) (ha : 0 ≤ a ∧ a ≤ 1048576) (hl : l.length ≤ maxLen) : ∃ r, laws_szIntS.f l a = some r ∧ (0 ≤ r → r = a - l.length) ∧ (r < 0 → a < l.length) := by
  simp only [maxLen] at hl
  unfold laws_szIntS.f
  rw [w64 (by omega) (by omega)]
  by_cases h : a - (l.length : Int) < 0
  · exact ⟨-1, by rw [if_pos h], fun h2 => by omega, fun _ => by omega⟩
  · exact ⟨a - (l.length : Int), by rw [if_neg h], fun _ => rfl, fun h2 => by omega⟩
theorem rdLL_nat (l : List (List Int)) (i : Nat) (h : i < l.length) : rd_L1 l (i : Int) = l[i] := by simp [rd_L1, List.getD_eq_getElem?_getD, h]
theorem szIntSS_ev (l : List (List Int)) (a : Int) (ha : 0 ≤ a ∧ a ≤ 1048576) (hl : l.length ≤ maxLen) (hx : ∀ x ∈ l, x.length ≤ maxLen) : ∃ r, (∃ K, ∀ k, K ≤ k → laws_szIntSS.f k l a = some r) ∧ (0 ≤ r → r ≤ a ∧ (l.length : Int) ≤ a ∧ ∀ x ∈ l, (x.length : Int) ≤ a) := by
  simp only [maxLen] at hl
  by_cases h : a - (l.length : Int) < 0
  · refine ⟨-1, ⟨0, fun k _ => ?_⟩, fun h2 => by omega⟩
    unfold laws_szIntSS.f
    rw [w64 (by omega) (by omega), if_pos h]
  · have key : ∀ d i, i + d = l.length → ∀ b : Int, 0 ≤ b → b ≤ a → ∃ r, (∃ K, ∀ k, K ≤ k → laws_szIntSS.l0 k l b (i : Int) = some r) ∧ (0 ≤ r → r ≤ b ∧ ∀ x ∈ l.drop i, (x.length : Int) ≤ a) := by
      intro d
      induction d with
      | zero =>
        intro i hi b hb hba
        refine ⟨b, ev_suc 0 fun k _ => ?_, fun _ => ⟨by omega, fun x hx => ?_⟩⟩
        · simp only [laws_szIntSS.l0]
          rw [if_neg (by omega)]
        · rw [List.drop_of_length_le (by omega)] at hx
          simp at hx
      | succ d ih =>
        intro i hi b hb hba
        have hlt : i < l.length := by omega
        obtain ⟨r, h1, h2, h3⟩ := szIntS_ev l[i] b (by omega) (hx _ (List.getElem_mem hlt))
        by_cases h4 : r < 0
        · refine ⟨-1, ev_suc 0 fun k _ => ?_, fun h5 => by omega⟩
          simp only [laws_szIntSS.l0]
          rw [if_pos (by omega), if_pos (by omega), rdLL_nat l i hlt, h1]
          simp only [Option.bind_some]
          rw [if_pos h4]
        · have h5 := h2 (by omega)
          obtain ⟨r2, ⟨K, h6⟩, h7⟩ := ih (i + 1) (by omega) r (by omega) (by omega)
          refine ⟨r2, ev_suc K fun k hk => ?_, fun h8 => ⟨by have := (h7 h8).1; omega, fun x hx => ?_⟩⟩
          · simp only [laws_szIntSS.l0]
            rw [if_pos (by omega), if_pos (by omega), rdLL_nat l i hlt, h1]
            simp only [Option.bind_some]
            rw [if_neg h4, w64s (by omega)]
            exact h6 k hk
          · rw [List.drop_eq_getElem_cons hlt] at hx
            rcases List.mem_cons.1 hx with rfl | hx
            · omega
            · exact (h7 h8).2 x hx
    obtain ⟨r, ⟨K, h1⟩, h2⟩ := key l.length 0 (by omega) (a - l.length) (by omega) (by omega)
    refine ⟨r, ⟨K, fun k hk => ?_⟩, fun h3 => ⟨by have := (h2 h3).1; omega, by omega, by simpa using (h2 h3).2⟩⟩
    unfold laws_szIntSS.f
    rw [w64 (by omega) (by omega), if_neg h]
    exact h1 k hk
theorem toIntS_ev (l : List Int) (hl : l.length ≤ 1048576) : ∃ K, ∀ k, K ≤ k → laws_toIntS.f k l = some l := by
  have h := ev_loop (F := fun k i => laws_toIntS.l0 k l (l.take i ++ List.replicate (l.length - i) 0) (i : Int)) (n := l.length) (res := fun _ => l)
    (ev_suc 0 fun k _ => by simp only [laws_toIntS.l0]; rw [if_neg (by omega), fill_last])
    (fun i hi K hK => ev_suc K fun k hk => by
      simp only [laws_toIntS.l0]
      rw [if_pos (by omega), if_pos (by omega), if_pos (by rw [fill_length l 0 i (by omega)]; omega), Int.toNat_natCast, rd_nat l i hi, fill_step l 0 i hi, w64s (by omega)]
      exact hK k hk) 0 (Nat.zero_le _)
  obtain ⟨K, h⟩ := h
  refine ⟨K, fun k hk => ?_⟩
  unfold laws_toIntS.f
  rw [if_pos (by omega), if_pos (by omega), Int.toNat_natCast]
  simpa using h k hk
theorem toIntSS_ev (l : List (List Int)) (hl : l.length ≤ 1048576) (hx : ∀ x ∈ l, x.length ≤ 1048576) : ∃ K, ∀ k, K ≤ k → laws_toIntSS.f k l = some l := by
  have h := ev_loop (F := fun k i => laws_toIntSS.l0 k l (l.take i ++ List.replicate (l.length - i) []) (i : Int)) (n := l.length) (res := fun _ => l)
    (ev_suc 0 fun k _ => by simp only [laws_toIntSS.l0]; rw [if_neg (by omega), fill_last])
    (fun i hi K hK => by
      obtain ⟨K2, h2⟩ := toIntS_ev l[i] (hx _ (List.getElem_mem hi))
      exact ev_suc (max K K2) fun k hk => by
        simp only [laws_toIntSS.l0]
        rw [if_pos (by omega), if_pos (by omega), rdLL_nat l i hi, h2 k (by omega)]
        simp only [Option.bind_some]
        rw [if_pos (by rw [fill_length l [] i (by omega)]; omega), Int.toNat_natCast, fill_step l [] i hi, w64s (by omega)]
        exact hK k (by omega)) 0 (Nat.zero_le _)
  obtain ⟨K, h⟩ := h
  refine ⟨K, fun k hk => ?_⟩
  unfold laws_toIntSS.f
  rw [if_pos (by omega), if_pos (by omega), Int.toNat_natCast]
  simpa using h k hk
theorem eqIntS_ev (l : List Int) (hl : l.length ≤ 1048576) : ∃ K, ∀ k, K ≤ k → laws_eqIntS.f k l l = some true :=
  ⟨l.length + 1, fun k hk => eqIntS_self l (by omega) k (by omega)⟩
theorem eqIntSS_ev (l : List (List Int)) (hl : l.length ≤ 1048576) (hx : ∀ x ∈ l, x.length ≤ 1048576) : ∃ K, ∀ k, K ≤ k → laws_eqIntSS.f k l l = some true := by
  have h := ev_loop (F := fun k i => laws_eqIntSS.l0 k l l (i : Int)) (n := l.length) (res := fun _ => true)
    (ev_suc 0 fun k _ => by simp only [laws_eqIntSS.l0]; rw [if_neg (by omega)])
    (fun i hi K hK => by
      obtain ⟨K2, h2⟩ := eqIntS_ev l[i] (hx _ (List.getElem_mem hi))
      exact ev_suc (max K K2) fun k hk => by
        simp only [laws_eqIntSS.l0]
        rw [if_pos (by omega), if_pos (by omega), if_pos (by omega), rdLL_nat l i hi, h2 k (by omega)]
        simp only [Option.bind_some]
        rw [if_pos trivial, w64s (by omega)]
        exact hK k (by omega)) 0 (Nat.zero_le _)
  obtain ⟨K, h⟩ := h
  refine ⟨K, fun k hk => ?_⟩
  unfold laws_eqIntSS.f
  rw [if_pos rfl]
  exact h k hk
theorem markIntS_ev (l : List Int) (hl : l.length ≤ 1048576) (a : Int) (ha : 0 ≤ a ∧ a ≤ 1000000000000000000) : ∃ K, ∀ k, K ≤ k → laws_markIntS.f k l a = some (a + (l.length : Int), ramp a l.length) :=
  ⟨l.length + 1, fun k hk => markIntS_eq a ha l (by omega) k (by omega)⟩
theorem heldIntS_ev (n : Nat) (hl : n ≤ 1048576) (a : Int) (ha : 0 ≤ a ∧ a ≤ 1000000000000000000) : ∃ K, ∀ k, K ≤ k → laws_heldIntS.f k (ramp a n) a = some (a + (n : Int)) :=
  ⟨n + 1, fun k hk => heldIntS_eq a ha n (by omega) k (by omega)⟩
theorem l1All_ev (lo hi : Int) (l : List Int) (hl : l.length ≤ 1048576) : ∃ K, ∀ k, K ≤ k → spec_l1All.f k l lo hi = some (l.all (inr lo hi)) :=
  ⟨l.length + 1, fun k hk => l1All_eq lo hi l (by omega) k (by omega)⟩

/-- A number put into an increasing list, unless it is there. -/
def put : List Int → Int → List Int
  | [], n => [n]
  | x :: r, n => if x < n then x :: put r n else if x = n then x :: r else n :: x :: r
theorem put_mem (n z : Int) : ∀ l : List Int, z ∈ put l n ↔ z = n ∨ z ∈ l := by
  intro l
  induction l with
  | nil => simp [put]
  | cons x r ih =>
    simp only [put]
    split
    · rw [List.mem_cons, ih, List.mem_cons]
      constructor
      · rintro (h | h | h) <;> simp [h]
      · rintro (h | h | h) <;> simp [h]
    · split
      · rename_i h
        rw [List.mem_cons]
        constructor
        · intro h2; exact .inr h2
        · rintro (h2 | h2)
          · exact .inl (h2.trans h.symm)
          · exact h2
      · simp
theorem put_sorted (n : Int) : ∀ l : List Int, l.Pairwise (· < ·) → (put l n).Pairwise (· < ·) := by
  intro l
  induction l with
  | nil => intro _; simp [put]
  | cons x r ih =>
    intro h
    obtain ⟨h1, h2⟩ := List.pairwise_cons.1 h
    simp only [put]
    split
    · rename_i hx
      refine List.pairwise_cons.2 ⟨fun z hz => ?_, ih h2⟩
      rcases (put_mem n z r).1 hz with rfl | hz
      · exact hx
      · exact h1 z hz
    · split
      · exact h
      · refine List.pairwise_cons.2 ⟨fun z hz => ?_, h⟩
        rcases List.mem_cons.1 hz with rfl | hz
        · omega
        · have := h1 z hz
          omega
theorem put_length (n : Int) : ∀ l : List Int, l.Pairwise (· < ·) → (put l n).length = if n ∈ l then l.length else l.length + 1 := by
  intro l
  induction l with
  | nil => intro _; simp [put]
  | cons x r ih =>
    intro h
    obtain ⟨h1, h2⟩ := List.pairwise_cons.1 h
    simp only [put]
    split
    · rename_i hx
      rw [List.length_cons, ih h2, List.length_cons]
      have e : n ∈ x :: r ↔ n ∈ r := by
        rw [List.mem_cons]
        constructor
        · rintro (h | h)
          · omega
          · exact h
        · exact .inr
      by_cases hn : n ∈ r
      · rw [if_pos hn, if_pos (e.2 hn)]
      · rw [if_neg hn, if_neg (fun h => hn (e.1 h))]
    · split
      · rename_i hx
        rw [if_pos (by rw [← hx]; exact List.mem_cons_self)]
      · rw [if_neg (fun hn => by
          rcases List.mem_cons.1 hn with hn | hn
          · omega
          · have := h1 n hn
            omega)]
        rfl
theorem put_len_le (n : Int) (l : List Int) : (put l n).length ≤ l.length + 1 := by
  induction l with
  | nil => simp [put]
  | cons x r ih => simp only [put]; split <;> (try split) <;> simp <;> omega
theorem l1Put_ev (l : List Int) (hl : l.length ≤ 2097152) (n : Int) : ∃ K, ∀ k, K ≤ k → spec_l1Put.f k l n = some (put l n) := by
  have h := ev_loop (F := fun k i => spec_l1Put.l0 k l n (i : Int)) (n := l.length) (res := fun i => l.take i ++ put (l.drop i) n)
    (ev_suc 0 fun k _ => by
      simp only [spec_l1Put.l0]
      rw [if_neg (by omega)]
      simp only [Option.bind_some]
      rw [if_pos (by omega), if_pos (by omega)]
      simp only [Option.bind_some, Int.toNat_natCast, List.nil_append, List.take_length, List.drop_length, List.length_nil, Nat.zero_add]
      rw [if_pos (by omega)]
      try simp only [Option.bind_some]
      rw [if_pos (by omega)]
      try simp only [Option.bind_some, List.length_append, List.length_singleton, List.length_nil]
      rw [if_pos (by omega)]
      simp [put])
    (fun i hi K hK => ev_suc K fun k hk => by
      simp only [spec_l1Put.l0]
      rw [if_pos (by omega), if_pos (by omega), rd_nat l i hi, List.drop_eq_getElem_cons hi]
      simp only [put]
      by_cases h1 : l[i] < n
      · rw [if_pos h1, if_pos h1, w64s (by omega), hK k hk, List.take_succ_eq_append_getElem hi, List.append_assoc, List.singleton_append]
      · rw [if_neg h1, if_neg h1]
        by_cases h2 : l[i] = n
        · rw [if_pos h2, if_pos h2, ← List.drop_eq_getElem_cons hi, List.take_append_drop]
        · rw [if_neg h2, if_neg h2]
          simp only [Option.bind_some]
          rw [if_pos (by omega)]
          simp only [Option.bind_some, Int.toNat_natCast, List.nil_append, List.length_nil, Nat.zero_add]
          rw [if_pos (by rw [List.length_take]; omega)]
          try simp only [Option.bind_some]
          rw [if_pos (by rw [List.length_take]; omega)]
          try simp only [Option.bind_some]
          rw [if_pos (by simp only [List.length_append, List.length_take, List.length_drop, List.length_singleton]; omega), ← List.drop_eq_getElem_cons hi]
          simp) 0 (Nat.zero_le _)
  simpa [spec_l1Put.f] using h
/-- A list that has all numbers from 0 to n - 1. -/
def isMatchP (l : List Int) (n : Int) : Prop := (l.length : Int) = n ∧ (∀ x ∈ l, 0 ≤ x ∧ x < n) ∧ l.Nodup
instance (l : List Int) (n : Int) : Decidable (isMatchP l n) := by unfold isMatchP; exact inferInstance
def metOf (l : List Int) : List Int := l.foldl put []
theorem met_snoc (l : List Int) (x : Int) : metOf (l ++ [x]) = put (metOf l) x := by simp [metOf, List.foldl_append]
theorem met_facts (l : List Int) : ∀ i, i ≤ l.length → (metOf (l.take i)).Pairwise (· < ·) ∧ (∀ z, z ∈ metOf (l.take i) ↔ z ∈ l.take i) ∧ (metOf (l.take i)).length ≤ i ∧ ((metOf (l.take i)).length = i ↔ (l.take i).Nodup) := by
  intro i
  induction i with
  | zero => intro _; simp [metOf]
  | succ i ih =>
    intro hi
    have hlt : i < l.length := by omega
    obtain ⟨h1, h2, h3, h4⟩ := ih (by omega)
    rw [List.take_succ_eq_append_getElem hlt, met_snoc]
    refine ⟨put_sorted _ _ h1, fun z => ?_, ?_, ?_⟩
    · rw [put_mem, h2 z, List.mem_append, List.mem_singleton]
      exact Or.comm
    · rw [put_length _ _ h1]
      split <;> omega
    · rw [put_length _ _ h1, List.nodup_append]
      by_cases hm : l[i] ∈ metOf (l.take i)
      · rw [if_pos hm]
        constructor
        · intro h; omega
        · rintro ⟨_, _, h⟩
          exact absurd rfl (h _ ((h2 _).1 hm) _ (List.mem_singleton.2 rfl))
      · rw [if_neg hm]
        constructor
        · intro h
          refine ⟨h4.1 (by omega), by simp, fun a ha b hb => ?_⟩
          rw [List.mem_singleton.1 hb]
          rintro rfl
          exact hm ((h2 _).2 ha)
        · rintro ⟨h, _, _⟩
          have := h4.2 h
          omega
theorem maMatch_ev (l : List Int) (hl : l.length ≤ 1048576) (n : Int) (hn : 0 ≤ n ∧ n ≤ 1048576) : ∃ K, ∀ k, K ≤ k → spec_maMatch.f k l n = some (decide (isMatchP l n ∧ 1 ≤ n ∧ n ≤ 7)) := by
  obtain ⟨f1, f2, f3, f4⟩ := met_facts l l.length (Nat.le_refl _)
  rw [List.take_length] at f1 f2 f3 f4
  obtain ⟨Ka, ha⟩ := l1All_ev 0 (n - 1) l hl
  have h := ev_loop (F := fun k i => spec_maMatch.l0 k l n (metOf (l.take i)) l (l.length : Int) (i : Int)) (n := l.length) (res := fun _ => decide (isMatchP l n ∧ 1 ≤ n ∧ n ≤ 7))
    (ev_suc Ka fun k hk => by
      simp only [spec_maMatch.l0]
      rw [if_neg (by omega), List.take_length, l1In_eq, w64 (by omega) (by omega), ha k hk]
      simp only [Option.bind_some]
      by_cases h1 : (l.length : Int) = n
      · rw [if_pos h1]
        by_cases h2 : ((metOf l).length : Int) = n
        · rw [if_pos h2]
          have hnd : l.Nodup := f4.1 (by omega)
          by_cases h3 : inr 1 7 n = true
          · rw [if_pos h3]
            have h3' := (inr_iff _ _ _).1 h3
            congr 1
            rw [Bool.eq_iff_iff, List.all_eq_true, decide_eq_true_eq]
            simp only [inr_iff]
            constructor
            · intro h4
              exact ⟨⟨h1, fun x hx => by have := h4 x hx; omega, hnd⟩, h3'⟩
            · rintro ⟨⟨_, h4, _⟩, _⟩ x hx
              have := h4 x hx
              omega
          · rw [if_neg h3, decide_eq_false (fun h4 => h3 ((inr_iff _ _ _).2 h4.2))]
        · rw [if_neg h2, decide_eq_false (fun h4 => h2 (by have := f4.2 h4.1.2.2; omega))]
      · rw [if_neg h1, decide_eq_false (fun h4 => h1 h4.1.1)])
    (fun i hi K hK => by
      obtain ⟨_, _, f5, _⟩ := met_facts l i (by omega)
      obtain ⟨K2, h2⟩ := l1Put_ev (metOf (l.take i)) (by omega) l[i]
      exact ev_suc (max K K2) fun k hk => by
        simp only [spec_maMatch.l0]
        rw [if_pos (by omega), if_pos (by omega), if_pos (by omega), rd_nat l i hi, h2 k (by omega)]
        simp only [Option.bind_some]
        rw [w64s (by omega), ← met_snoc, ← List.take_succ_eq_append_getElem hi]
        exact hK k (by omega)) 0 (Nat.zero_le _)
  simpa [spec_maMatch.f, metOf] using h
def seenOf (l : List Int) (n : Nat) : List Bool := (List.range n).map fun (j : Nat) => decide ((j : Int) ∈ l)
theorem seen_length (l : List Int) (n : Nat) : (seenOf l n).length = n := by simp [seenOf]
theorem seen_at (l : List Int) (n : Nat) (x : Int) (h0 : 0 ≤ x) (h1 : x < n) : rdOf false (seenOf l n) x = decide (x ∈ l) := by
  have hx : x.toNat < n := by omega
  simp only [rdOf, seenOf, List.getD_eq_getElem?_getD, List.getElem?_map]
  rw [List.getElem?_range hx]
  simp only [Option.map_some, Option.getD_some]
  rw [Int.toNat_of_nonneg h0]
theorem seen_set (l : List Int) (n : Nat) (x : Int) (h0 : 0 ≤ x) (h1 : x < n) : (seenOf l n).set x.toNat true = seenOf (l ++ [x]) n := by
  apply List.ext_getElem
  · simp [seenOf]
  · intro j hj hj2
    simp only [List.length_set, seen_length] at hj
    rw [List.getElem_set]
    simp only [seenOf, List.getElem_map, List.getElem_range, List.mem_append, List.mem_singleton]
    by_cases hx : x.toNat = j
    · rw [if_pos hx]
      have : (j : Int) = x := by omega
      simp [this]
    · rw [if_neg hx]
      have : ¬ (j : Int) = x := by omega
      simp [this]
theorem implIsMatch_ev (l : List Int) (hl : l.length ≤ 1048576) (n : Int) (hn : 0 ≤ n ∧ n ≤ 1048576) : ∃ K, ∀ k, K ≤ k → impl_isMatch.f k l n = some (decide (isMatchP l n)) := by
  obtain ⟨m, rfl⟩ := Int.eq_ofNat_of_zero_le hn.1
  by_cases hlen : (l.length : Int) = (m : Int)
  · have h := ev_loop (F := fun k i => impl_isMatch.l0 k (m : Int) (seenOf (l.take i) m) l (l.length : Int) (i : Int)) (n := l.length)
      (res := fun i => decide ((∀ x ∈ l.drop i, 0 ≤ x ∧ x < (m : Int)) ∧ (l.drop i).Nodup ∧ ∀ x ∈ l.drop i, x ∉ l.take i))
      (ev_suc 0 fun k _ => by
        simp only [impl_isMatch.l0]
        rw [if_neg (by omega), List.drop_length, decide_eq_true (by simp)])
      (fun i hi K hK => ev_suc K fun k hk => by
        simp only [impl_isMatch.l0]
        rw [if_pos (by omega), if_pos (by omega), if_pos (by omega), rd_nat l i hi, List.drop_eq_getElem_cons hi]
        by_cases h1 : l[i] < 0
        · rw [if_pos h1, decide_eq_false (fun h => by have := h.1 l[i] List.mem_cons_self; omega)]
        · rw [if_neg h1]
          by_cases h2 : l[i] ≥ (m : Int)
          · rw [if_pos h2, decide_eq_false (fun h => by have := h.1 l[i] List.mem_cons_self; omega)]
          · rw [if_neg h2, if_pos (by omega), if_pos (by rw [seen_length]; omega), seen_at _ _ _ (by omega) (by omega), seen_set _ _ _ (by omega) (by omega), w64s (by omega), ← List.take_succ_eq_append_getElem hi]
            by_cases h3 : l[i] ∈ l.take i
            · rw [if_pos (decide_eq_true h3), decide_eq_false (fun h => h.2.2 l[i] List.mem_cons_self h3)]
            · rw [if_neg (by simpa using h3), hK k hk]
              congr 1
              rw [decide_eq_decide, List.take_succ_eq_append_getElem hi]
              simp only [List.mem_cons, List.mem_append, List.mem_singleton, List.nodup_cons, List.not_mem_nil, or_false]
              constructor
              · rintro ⟨a1, a2, a3⟩
                refine ⟨?_, ⟨fun hm => (a3 _ hm) (.inr rfl), a2⟩, ?_⟩
                · rintro x (rfl | hx)
                  · omega
                  · exact a1 x hx
                · rintro x (rfl | hx)
                  · exact h3
                  · exact fun hm => a3 x hx (.inl hm)
              · rintro ⟨a1, ⟨a2, a3⟩, a4⟩
                refine ⟨fun x hx => a1 x (.inr hx), a3, fun x hx => ?_⟩
                rintro (hm | rfl)
                · exact a4 x (.inr hx) hm
                · exact a2 hx) 0 (Nat.zero_le _)
    obtain ⟨K, h⟩ := h
    refine ⟨K, fun k hk => ?_⟩
    have h2 := h k hk
    unfold impl_isMatch.f
    rw [if_pos hlen, if_pos (by omega), if_pos (by simp only [Int.toNat_natCast]; omega), Int.toNat_natCast]
    have e : seenOf (l.take 0) m = List.replicate m false := by
      apply List.ext_getElem <;> simp [seenOf]
    rw [e] at h2
    rw [show (0 : Int) = ((0 : Nat) : Int) from rfl, h2]
    congr 1
    rw [decide_eq_decide]
    simp [isMatchP, hlen]
  · refine ⟨0, fun k _ => ?_⟩
    unfold impl_isMatch.f
    rw [if_neg hlen, decide_eq_false (fun h => hlen h.1)]
def prefsOk (l : List (List Int)) : Bool := (l.all fun x => decide (isMatchP x (l.length : Int))) && inr 1 7 (l.length : Int)
theorem prefsOk_iff (l : List (List Int)) : prefsOk l = true ↔ (∀ x ∈ l, isMatchP x (l.length : Int)) ∧ 1 ≤ l.length ∧ l.length ≤ 7 := by
  simp only [prefsOk, Bool.and_eq_true, List.all_eq_true, decide_eq_true_eq, inr_iff]
  constructor
  · rintro ⟨h1, h2, h3⟩
    exact ⟨h1, by omega, by omega⟩
  · rintro ⟨h1, h2, h3⟩
    exact ⟨h1, by omega, by omega⟩
theorem maPreferences_ev (l : List (List Int)) (hl : l.length ≤ 1048576) (hx : ∀ x ∈ l, x.length ≤ 1048576) : ∃ K, ∀ k, K ≤ k → spec_maPreferences.f k l = some (prefsOk l) := by
  have h := ev_loop (F := fun k i => spec_maPreferences.l0 k l l (l.length : Int) (i : Int)) (n := l.length) (res := fun i => ((l.drop i).all fun x => decide (isMatchP x (l.length : Int))) && inr 1 7 (l.length : Int))
    (ev_suc 0 fun k _ => by
      simp only [spec_maPreferences.l0]
      rw [if_neg (by omega), l1In_eq, List.drop_of_length_le (Nat.le_refl _)]
      rfl)
    (fun i hi K hK => by
      obtain ⟨K2, h2⟩ := maMatch_ev l[i] (hx _ (List.getElem_mem hi)) (l.length : Int) (by omega)
      exact ev_suc (max K K2) fun k hk => by
        simp only [spec_maPreferences.l0]
        rw [if_pos (by omega), if_pos (by omega), if_pos (by omega), rdLL_nat l i hi, h2 k (by omega), List.drop_eq_getElem_cons hi, List.all_cons]
        simp only [Option.bind_some]
        by_cases h3 : isMatchP l[i] (l.length : Int)
        · by_cases h4 : 1 ≤ (l.length : Int) ∧ (l.length : Int) ≤ 7
          · rw [if_pos (decide_eq_true ⟨h3, h4⟩), decide_eq_true h3, Bool.true_and, w64s (by omega)]
            exact hK k (by omega)
          · rw [if_neg (by simp only [decide_eq_true_eq]; exact fun h => h4 h.2), (inr_false _ _ _).2 h4, Bool.and_false]
        · rw [if_neg (by simp only [decide_eq_true_eq]; exact fun h => h3 h.1), decide_eq_false h3, Bool.false_and, Bool.false_and]) 0 (Nat.zero_le _)
  exact h
theorem implArePreferences_ev (l : List (List Int)) (hl : l.length ≤ 1048576) (hx : ∀ x ∈ l, x.length ≤ 1048576) : ∃ K, ∀ k, K ≤ k → impl_ArePreferences.f k l = some (prefsOk l) := by
  have h := ev_loop (F := fun k i => impl_ArePreferences.l0 k l l (l.length : Int) (i : Int)) (n := l.length) (res := fun i => (l.drop i).all fun x => decide (isMatchP x (l.length : Int)))
    (ev_suc 0 fun k _ => by
      simp only [impl_ArePreferences.l0]
      rw [if_neg (by omega), List.drop_of_length_le (Nat.le_refl _)]
      rfl)
    (fun i hi K hK => by
      obtain ⟨K2, h2⟩ := implIsMatch_ev l[i] (hx _ (List.getElem_mem hi)) (l.length : Int) (by omega)
      exact ev_suc (max K K2) fun k hk => by
        simp only [impl_ArePreferences.l0]
        rw [if_pos (by omega), if_pos (by omega), if_pos (by omega), rdLL_nat l i hi, h2 k (by omega), List.drop_eq_getElem_cons hi, List.all_cons]
        simp only [Option.bind_some]
        by_cases h3 : isMatchP l[i] (l.length : Int)
        · rw [if_pos (decide_eq_true h3), decide_eq_true h3, Bool.true_and, w64s (by omega)]
          exact hK k (by omega)
        · rw [if_neg (by simp only [decide_eq_true_eq]; exact h3), decide_eq_false h3, Bool.false_and]) 0 (Nat.zero_le _)
  obtain ⟨K, h⟩ := h
  refine ev_suc K fun k hk => ?_
  have hk2 := h k hk
  unfold impl_ArePreferences.f prefsOk
  by_cases h1 : (l.length : Int) < 1
  · rw [if_pos h1, (inr_false _ _ _).2 (by omega), Bool.and_false]
    simp only [impl_ArePreferences.j0]
    rw [if_pos trivial]
  · rw [if_neg h1]
    simp only [impl_ArePreferences.j0]
    by_cases h2 : (l.length : Int) > 7
    · rw [if_pos (by simpa using h2), (inr_false _ _ _).2 (by omega), Bool.and_false]
    · rw [if_neg (by simpa using h2), (inr_iff _ _ _).2 (by omega), Bool.and_true]
      exact hk2
theorem slIndex_ev (l : List Int) (hl : l.length ≤ 1048576) (a : Int) : ∃ r : Int, (∃ K, ∀ k, K ≤ k → slices_Index_int_int.f k l a = some r) ∧ (0 ≤ r ↔ a ∈ l) ∧ r < l.length := by
  have key : ∀ d i, i + d = l.length → ∃ r : Int, (∃ K, ∀ k, K ≤ k → slices_Index_int_int.l0 k l a (l.length : Int) (i : Int) = some r) ∧ (0 ≤ r ↔ a ∈ l.drop i) ∧ (r < l.length) := by
    intro d
    induction d with
    | zero =>
      intro i hi
      refine ⟨-1, ev_suc 0 fun k _ => ?_, ?_, by omega⟩
      · simp only [slices_Index_int_int.l0]
        rw [if_neg (by omega)]
      · rw [List.drop_of_length_le (by omega)]; simp
    | succ d ih =>
      intro i hi
      have hlt : i < l.length := by omega
      by_cases h1 : a = l[i]
      · refine ⟨(i : Int), ev_suc 0 fun k _ => ?_, ?_, by omega⟩
        · simp only [slices_Index_int_int.l0]
          rw [if_pos (by omega), if_pos (by omega), if_pos (by omega), rd_nat l i hlt, if_pos h1]
        · rw [List.drop_eq_getElem_cons hlt, ← h1]
          simp
      · obtain ⟨r, ⟨K, hK⟩, h2, h3⟩ := ih (i + 1) (by omega)
        refine ⟨r, ev_suc K fun k hk => ?_, ?_, h3⟩
        · simp only [slices_Index_int_int.l0]
          rw [if_pos (by omega), if_pos (by omega), if_pos (by omega), rd_nat l i hlt, if_neg h1, w64s (by omega)]
          exact hK k hk
        · rw [h2, List.drop_eq_getElem_cons hlt, List.mem_cons]
          simp [h1]
  obtain ⟨r, h1, h2, h3⟩ := key l.length 0 (by omega)
  exact ⟨r, h1, by simpa using h2, h3⟩
theorem markIntSS_ev (l : List (List Int)) (hl : l.length ≤ 1048576) (hx : ∀ x ∈ l, x.length ≤ 1048576) : ∀ a : Int, 0 ≤ a → a ≤ 1000000000000000 → ∃ (m : Int) (y : List (List Int)), (∃ K, ∀ k, K ≤ k → laws_markIntSS.f k l a = some (m, y)) ∧ 0 ≤ m ∧ m ≤ a + 1048576 * l.length := by
  intro a ha hab
  have key : ∀ d i, i + d = l.length → ∀ (x : List (List Int)) (b : Int), x.length = l.length → x.drop i = l.drop i → a ≤ b → b ≤ a + 1048576 * i → ∃ (m : Int) (y : List (List Int)), (∃ K, ∀ k, K ≤ k → laws_markIntSS.l0 k x b (i : Int) = some (m, y)) ∧ 0 ≤ m ∧ m ≤ a + 1048576 * l.length := by
    intro d
    induction d with
    | zero =>
      intro i hi x b hxl hd hb1 hb2
      refine ⟨b, x, ev_suc 0 fun k _ => ?_, by omega, by omega⟩
      simp only [laws_markIntSS.l0]
      rw [if_neg (by omega)]
    | succ d ih =>
      intro i hi x b hxl hd hb1 hb2
      have hlt : i < l.length := by omega
      have hltx : i < x.length := by omega
      have hd2 := hd
      rw [List.drop_eq_getElem_cons hltx, List.drop_eq_getElem_cons hlt] at hd2
      obtain ⟨he, hd3⟩ := List.cons.inj hd2
      have hxi : x[i].length ≤ 1048576 := by rw [he]; exact hx _ (List.getElem_mem hlt)
      obtain ⟨K1, h1⟩ := markIntS_ev x[i] hxi b (by omega)
      obtain ⟨m, y, ⟨K2, h2⟩, h3, h4⟩ := ih (i + 1) (by omega) (x.set i (ramp b x[i].length)) (b + (x[i].length : Int)) (by rw [List.length_set]; exact hxl) (by rw [List.drop_set_of_lt (by omega)]; exact hd3) (by omega) (by omega)
      refine ⟨m, y, ev_suc (max K1 K2) fun k hk => ?_, h3, h4⟩
      simp only [laws_markIntSS.l0]
      rw [if_pos (by omega), if_pos (by omega), rdLL_nat x i hltx, h1 k (by omega)]
      simp only [Option.bind_some, Int.toNat_natCast]
      rw [w64s (by omega)]
      exact h2 k (by omega)
  obtain ⟨m, y, h1, h2, h3⟩ := key l.length 0 (by omega) l a rfl rfl (by omega) (by omega)
  exact ⟨m, y, h1, h2, h3⟩
/-- Both find the place of a number that is there. -/
theorem rank_both (l : List Int) (hl : l.length ≤ 1048576) (a : Int) (ha : a ∈ l) : ∃ r : Int, (∃ K, ∀ k, K ≤ k → spec_maRank.f k l a = some r) ∧ (∃ K, ∀ k, K ≤ k → slices_Index_int_int.f k l a = some r) ∧ 0 ≤ r ∧ r < l.length := by
  have key : ∀ d i, i + d = l.length → a ∈ l.drop i → ∃ r : Int, (∃ K, ∀ k, K ≤ k → spec_maRank.l0 k l a (i : Int) = some r) ∧ (∃ K, ∀ k, K ≤ k → slices_Index_int_int.l0 k l a (l.length : Int) (i : Int) = some r) ∧ 0 ≤ r ∧ r < l.length := by
    intro d
    induction d with
    | zero =>
      intro i hi hm
      rw [List.drop_of_length_le (by omega)] at hm
      simp at hm
    | succ d ih =>
      intro i hi hm
      have hlt : i < l.length := by omega
      by_cases h1 : l[i] = a
      · refine ⟨(i : Int), ev_suc 0 fun k _ => ?_, ev_suc 0 fun k _ => ?_, by omega, by omega⟩
        · simp only [spec_maRank.l0]
          rw [if_pos (by omega), if_pos (by omega), rd_nat l i hlt, if_pos h1]
        · simp only [slices_Index_int_int.l0]
          rw [if_pos (by omega), if_pos (by omega), if_pos (by omega), rd_nat l i hlt, if_pos h1.symm]
      · rw [List.drop_eq_getElem_cons hlt] at hm
        have hm2 := (List.mem_cons.1 hm).resolve_left (fun h => h1 h.symm)
        obtain ⟨r, ⟨K1, h2⟩, ⟨K2, h3⟩, h4⟩ := ih (i + 1) (by omega) hm2
        refine ⟨r, ev_suc K1 fun k hk => ?_, ev_suc K2 fun k hk => ?_, h4⟩
        · simp only [spec_maRank.l0]
          rw [if_pos (by omega), if_pos (by omega), rd_nat l i hlt, if_neg h1, w64s (by omega)]
          exact h2 k hk
        · simp only [slices_Index_int_int.l0]
          rw [if_pos (by omega), if_pos (by omega), if_pos (by omega), rd_nat l i hlt, if_neg (fun h => h1 h.symm), w64s (by omega)]
          exact h3 k hk
  exact key l.length 0 (by omega) (by simpa using ha)
/-- As many different numbers as there are below n are all of them. -/
theorem pigeon : ∀ (n : Nat) (l : List Int), l.Nodup → (∀ x ∈ l, 0 ≤ x ∧ x < (n : Int)) → l.length ≤ n := by
  intro n
  induction n with
  | zero =>
    intro l _ h
    cases l with
    | nil => simp
    | cons x r => have := h x (List.mem_cons_self); omega
  | succ n ih =>
    intro l hn h
    have h2 := ih (l.erase (n : Int)) (hn.erase _) (fun x hx => by
      have h3 := (List.Nodup.mem_erase_iff hn).1 hx
      have h4 := h x h3.2
      have h5 := h3.1
      omega)
    by_cases hm : (n : Int) ∈ l
    · rw [List.length_erase_of_mem hm] at h2
      omega
    · rw [List.erase_of_not_mem hm] at h2
      omega
theorem match_all {l : List Int} {n : Nat} (h : isMatchP l (n : Int)) (j : Int) (h0 : 0 ≤ j) (h1 : j < (n : Int)) : j ∈ l := by
  obtain ⟨h2, h3, h4⟩ := h
  apply Classical.byContradiction
  intro hn
  have h5 := pigeon n (j :: l) (List.nodup_cons.2 ⟨hn, h4⟩) (fun x hx => by
    rcases List.mem_cons.1 hx with rfl | hx
    · exact ⟨h0, h1⟩
    · exact h3 x hx)
  simp only [List.length_cons] at h5
  omega
def sidesOk (a b : List (List Int)) : Bool := prefsOk a && (prefsOk b && decide (a.length = b.length))
theorem sides_both (a b : List (List Int)) (ha : a.length ≤ 1048576) (hxa : ∀ x ∈ a, x.length ≤ 1048576) (hb : b.length ≤ 1048576) (hxb : ∀ x ∈ b, x.length ≤ 1048576) : (∃ K, ∀ k, K ≤ k → spec_maBoth.f k a b = some (sidesOk a b)) ∧ ∃ K, ∀ k, K ≤ k → impl_areSides.f k a b = some (sidesOk a b) := by
  obtain ⟨K1, h1⟩ := maPreferences_ev a ha hxa
  obtain ⟨K2, h2⟩ := maPreferences_ev b hb hxb
  obtain ⟨K3, h3⟩ := implArePreferences_ev a ha hxa
  obtain ⟨K4, h4⟩ := implArePreferences_ev b hb hxb
  have he : ((a.length : Int) == (b.length : Int)) = decide (a.length = b.length) := by
    exact Bool.eq_iff_iff.2 (by simp only [beq_iff_eq, decide_eq_true_eq]; omega)
  constructor
  · refine ⟨K1 + K2, fun k hk => ?_⟩
    unfold spec_maBoth.f sidesOk
    rw [h1 k (by omega)]
    simp only [Option.bind_some]
    cases prefsOk a with
    | false => rw [if_neg (by simp), Bool.false_and]
    | true =>
      rw [if_pos rfl, h2 k (by omega)]
      simp only [Option.bind_some]
      cases prefsOk b with
      | false => rw [if_neg (by simp), Bool.false_and, Bool.and_false]
      | true => rw [if_pos rfl, he, Bool.true_and, Bool.true_and]
  · refine ⟨K3 + K4, fun k hk => ?_⟩
    unfold impl_areSides.f sidesOk
    rw [h3 k (by omega)]
    simp only [Option.bind_some]
    cases prefsOk a with
    | false => rw [if_neg (by simp), Bool.false_and]
    | true =>
      rw [if_pos rfl, h4 k (by omega)]
      simp only [Option.bind_some]
      cases prefsOk b with
      | false => rw [if_neg (by simp), Bool.false_and, Bool.and_false]
      | true => rw [if_pos rfl, he, Bool.true_and, Bool.true_and]
/-- Pigeonhole over Nat. -/
theorem gs_pigeon : ∀ (n : Nat) (l : List Nat), l.Nodup → (∀ x ∈ l, x < n) → l.length ≤ n := by
  intro n
  induction n with
  | zero =>
    intro l _ h
    cases l with
    | nil => simp
    | cons x l => exact absurd (h x (by simp)) (by omega)
  | succ n ih =>
    intro l hd h
    by_cases hn : n ∈ l
    · have h1 := ih (l.erase n) (hd.erase n) (fun x hx => by
        have h2 := (List.Nodup.mem_erase_iff hd).1 hx
        have := h x h2.2
        omega)
      rw [List.length_erase_of_mem hn] at h1
      omega
    · have := ih l hd (fun x hx => by
        have h2 := h x hx
        have : x ≠ n := fun e => hn (e ▸ hx)
        omega)
      omega
/-- The two sides: a truck's shovel at a rank, a shovel's rank for a truck, a truck's rank for a shovel. -/
structure Sides where
  n : Nat
  pa : Nat → Nat → Nat
  ra : Nat → Nat → Nat
  rb : Nat → Nat → Nat
  pa_lt : ∀ i r, i < n → r < n → pa i r < n
  ra_lt : ∀ i k, i < n → k < n → ra i k < n
  ra_pa : ∀ i r, i < n → r < n → ra i (pa i r) = r
  pa_ra : ∀ i k, i < n → k < n → pa i (ra i k) = k
  rb_inj : ∀ k i j, k < n → i < n → j < n → rb k i = rb k j → i = j
/-- A match without blocking pairs. -/
structure Stab (S : Sides) (mu : Nat → Nat) : Prop where
  lt : ∀ i, i < S.n → mu i < S.n
  inj : ∀ i j, i < S.n → j < S.n → mu i = mu j → i = j
  none : ∀ i j, i < S.n → j < S.n → S.ra i (mu j) < S.ra i (mu i) → S.rb (mu j) i < S.rb (mu j) j → False
/-- Where the asking stands: how often each truck was refused, whom each shovel holds. -/
structure Asked (S : Sides) (p : Nat → Nat) (h : Nat → Option Nat) : Prop where
  le : ∀ i, i < S.n → p i ≤ S.n
  held : ∀ k i, k < S.n → h k = some i → i < S.n ∧ p i < S.n ∧ S.pa i (p i) = k
  better : ∀ i r, i < S.n → r < p i → ∃ j, h (S.pa i r) = some j ∧ S.rb (S.pa i r) j < S.rb (S.pa i r) i
  best : ∀ mu, Stab S mu → ∀ i, i < S.n → p i ≤ S.ra i (mu i)
theorem asked_start (S : Sides) : Asked S (fun _ => 0) (fun _ => none) where
  le := fun i _ => Nat.zero_le _
  held := fun k i _ h => by cases h
  better := fun i r _ h => by omega
  best := fun mu _ i _ => Nat.zero_le _
/-- A truck that no shovel holds has somebody to ask. -/
theorem asked_more {S : Sides} {p h} (H : Asked S p h) {i : Nat} (hi : i < S.n) (hf : ∀ k, k < S.n → h k ≠ some i) : p i < S.n := by
  rcases Nat.lt_or_ge (p i) S.n with h1 | h1
  · exact h1
  exfalso
  have hp : p i = S.n := by have := H.le i hi; omega
  have hall : ∀ k, k < S.n → ∃ j, h k = some j ∧ j < S.n ∧ j ≠ i := by
    intro k hk
    obtain ⟨j, hj, _⟩ := H.better i (S.ra i k) hi (by rw [hp]; exact S.ra_lt i k hi hk)
    rw [S.pa_ra i k hi hk] at hj
    exact ⟨j, hj, (H.held k j hk hj).1, fun e => hf k hk (e ▸ hj)⟩
  have hl := gs_pigeon S.n (i :: (List.range S.n).map fun k => (h k).getD 0) (by
    rw [List.nodup_cons]
    constructor
    · intro hm
      obtain ⟨k, hk, he⟩ := List.mem_map.1 hm
      obtain ⟨j, hj, _, hne⟩ := hall k (List.mem_range.1 hk)
      rw [hj] at he
      exact hne he
    · rw [List.nodup_iff_pairwise_ne, List.pairwise_map]
      refine List.Pairwise.imp_of_mem ?_ (List.nodup_iff_pairwise_ne.1 List.nodup_range)
      intro k k' hk hk' hne he
      obtain ⟨j, hj, _, _⟩ := hall k (List.mem_range.1 hk)
      obtain ⟨j', hj', _, _⟩ := hall k' (List.mem_range.1 hk')
      rw [hj, hj'] at he
      simp at he
      subst he
      exact hne ((H.held k j (List.mem_range.1 hk) hj).2.2.symm.trans (H.held k' j (List.mem_range.1 hk') hj').2.2))
    (fun x hx => by
      rcases List.mem_cons.1 hx with rfl | hm
      · exact hi
      · obtain ⟨k, hk, he⟩ := List.mem_map.1 hm
        obtain ⟨j, hj, hlt, _⟩ := hall k (List.mem_range.1 hk)
        rw [hj] at he
        simp at he
        omega)
  simp at hl
  omega
/-- A free shovel takes whoever asks. -/
theorem asked_take {S : Sides} {p h} (H : Asked S p h) {i : Nat} (hi : i < S.n) (hp : p i < S.n) (hn : h (S.pa i (p i)) = none) : Asked S p (fun k => if k = S.pa i (p i) then some i else h k) where
  le := H.le
  held := fun k j hk e => by
    by_cases hk' : k = S.pa i (p i)
    · simp only [hk', if_true] at e
      injection e with e
      subst e
      exact ⟨hi, hp, hk'.symm⟩
    · simp only [if_neg hk'] at e
      exact H.held k j hk e
  better := fun j r hj hr => by
    obtain ⟨q, hq, hb⟩ := H.better j r hj hr
    have : S.pa j r ≠ S.pa i (p i) := fun e => by rw [e, hn] at hq; cases hq
    exact ⟨q, by simp only [if_neg this]; exact hq, hb⟩
  best := H.best
theorem not_best {S : Sides} {p h} (H : Asked S p h) {mu} (hm : Stab S mu) {x y k : Nat} (hx : x < S.n) (hy : y < S.n) (hne : x ≠ y) (hpx : p x < S.n) (hpy : p y < S.n) (hkx : S.pa x (p x) = k) (hky : S.pa y (p y) = k) (hb : S.rb k y < S.rb k x) : p x + 1 ≤ S.ra x (mu x) := by
  have h1 := H.best mu hm x hx
  have h2 := H.best mu hm y hy
  rcases Nat.lt_or_ge (p x) (S.ra x (mu x)) with h3 | h3
  · exact h3
  exfalso
  have e1 : p x = S.ra x (mu x) := by omega
  have e2 : k = mu x := by rw [← hkx, e1, S.pa_ra x _ hx (hm.lt x hx)]
  have h4 : p y < S.ra y (mu y) := by
    rcases Nat.lt_or_ge (p y) (S.ra y (mu y)) with h5 | h5
    · exact h5
    exfalso
    have e3 : p y = S.ra y (mu y) := by omega
    have e4 : k = mu y := by rw [← hky, e3, S.pa_ra y _ hy (hm.lt y hy)]
    exact hne (hm.inj x y hx hy (e2.symm.trans e4))
  refine hm.none y x hy hx ?_ ?_
  · rw [← e2, ← hky, S.ra_pa y (p y) hy hpy]; exact h4
  · rw [← e2]; exact hb
/-- A shovel that holds a worse one takes whoever asks; the other is refused. -/
theorem asked_turn {S : Sides} {p h} (H : Asked S p h) {i j : Nat} (hi : i < S.n) (hp : p i < S.n) (hij : i ≠ j) (hn : h (S.pa i (p i)) = some j) (hb : S.rb (S.pa i (p i)) i < S.rb (S.pa i (p i)) j) : Asked S (fun x => if x = j then p j + 1 else p x) (fun k => if k = S.pa i (p i) then some i else h k) := by
  have hk := S.pa_lt i (p i) hi hp
  obtain ⟨hj, hpj, hkj⟩ := H.held _ _ hk hn
  refine ⟨fun x hx => ?_, fun k x hk' e => ?_, fun x r hx hr => ?_, fun mu hm x hx => ?_⟩
  · by_cases hxj : x = j
    · simp only [hxj, if_true]; omega
    · simp only [if_neg hxj]; exact H.le x hx
  · by_cases hkk : k = S.pa i (p i)
    · simp only [hkk, if_true] at e
      injection e with e
      subst e
      simp only [if_neg hij]
      exact ⟨hi, hp, hkk.symm⟩
    · simp only [if_neg hkk] at e
      have h1 := H.held k x hk' e
      have hxj : x ≠ j := fun e2 => by
        subst e2
        exact hkk (h1.2.2.symm.trans hkj)
      simp only [if_neg hxj]
      exact h1
  · have key : ∀ q, h (S.pa x r) = some q → S.rb (S.pa x r) q ≤ S.rb (S.pa x r) x → (x = j → q = j → False ∨ S.pa x r = S.pa i (p i)) → ∃ q', (if S.pa x r = S.pa i (p i) then some i else h (S.pa x r)) = some q' ∧ S.rb (S.pa x r) q' < S.rb (S.pa x r) x ∨ (S.pa x r ≠ S.pa i (p i) ∧ ¬ S.rb (S.pa x r) q < S.rb (S.pa x r) x) := by
      intro q hq hle _
      by_cases e : S.pa x r = S.pa i (p i)
      · refine ⟨i, .inl ⟨by rw [if_pos e], ?_⟩⟩
        rw [e] at hq hle ⊢
        rw [hn] at hq
        injection hq with hq
        subst hq
        omega
      · by_cases hlt : S.rb (S.pa x r) q < S.rb (S.pa x r) x
        · exact ⟨q, .inl ⟨by rw [if_neg e]; exact hq, hlt⟩⟩
        · exact ⟨q, .inr ⟨e, hlt⟩⟩
    by_cases hxj : x = j
    · subst hxj
      simp only [if_true] at hr
      rcases Nat.lt_or_ge r (p x) with h1 | h1
      · obtain ⟨q, hq, hlt⟩ := H.better x r hx h1
        obtain ⟨q', h2 | h2⟩ := key q hq (by omega) (fun _ _ => by by_cases e : S.pa x r = S.pa i (p i); exact .inr e; subst_vars; exact absurd hlt (by omega))
        · exact ⟨q', h2.1, h2.2⟩
        · exact absurd hlt h2.2
      · have e : r = p x := by omega
        subst e
        rw [hkj]
        exact ⟨i, by simp, hb⟩
    · simp only [if_neg hxj] at hr
      obtain ⟨q, hq, hlt⟩ := H.better x r hx hr
      obtain ⟨q', h2 | h2⟩ := key q hq (by omega) (fun e => absurd e hxj)
      · exact ⟨q', h2.1, h2.2⟩
      · exact absurd hlt h2.2
  · by_cases hxj : x = j
    · subst hxj
      simp only [if_true]
      exact not_best H hm hx hi (fun e => hij e.symm) hpj hp hkj rfl hb
    · simp only [if_neg hxj]
      exact H.best mu hm x hx
/-- A shovel that holds a better one refuses. -/
theorem asked_refuse {S : Sides} {p h} (H : Asked S p h) {i j : Nat} (hi : i < S.n) (hp : p i < S.n) (hij : i ≠ j) (hf : ∀ k, k < S.n → h k ≠ some i) (hn : h (S.pa i (p i)) = some j) (hb : S.rb (S.pa i (p i)) j < S.rb (S.pa i (p i)) i) : Asked S (fun x => if x = i then p i + 1 else p x) h := by
  have hk := S.pa_lt i (p i) hi hp
  obtain ⟨hj, hpj, hkj⟩ := H.held _ _ hk hn
  refine ⟨fun x hx => ?_, fun k x hk' e => ?_, fun x r hx hr => ?_, fun mu hm x hx => ?_⟩
  · by_cases hxi : x = i
    · simp only [hxi, if_true]; omega
    · simp only [if_neg hxi]; exact H.le x hx
  · have hxi : x ≠ i := fun e2 => hf k hk' (e2 ▸ e)
    simp only [if_neg hxi]
    exact H.held k x hk' e
  · by_cases hxi : x = i
    · subst hxi
      simp only [if_true] at hr
      rcases Nat.lt_or_ge r (p x) with h1 | h1
      · exact H.better x r hx h1
      · have e : r = p x := by omega
        subst e
        exact ⟨j, hn, hb⟩
    · simp only [if_neg hxi] at hr
      exact H.better x r hx hr
  · by_cases hxi : x = i
    · subst hxi
      simp only [if_true]
      exact not_best H hm hx hj hij hp hpj rfl hkj hb
    · simp only [if_neg hxi]
      exact H.best mu hm x hx
/-- Where every truck is held, the match is stable. -/
theorem asked_stab {S : Sides} {p h} (H : Asked S p h) (hall : ∀ i, i < S.n → p i < S.n ∧ h (S.pa i (p i)) = some i) : Stab S (fun i => S.pa i (p i)) where
  lt := fun i hi => S.pa_lt i _ hi (hall i hi).1
  inj := fun i j hi hj e => by
    have h1 := (hall i hi).2
    have e' : S.pa i (p i) = S.pa j (p j) := e
    rw [e', (hall j hj).2] at h1
    injection h1 with h1
    exact h1.symm
  none := fun i j hi hj h1 h2 => by
    have h3 := (hall j hj).2
    have hk := S.pa_lt j _ hj (hall j hj).1
    rw [S.ra_pa i _ hi (hall i hi).1] at h1
    obtain ⟨q, hq, hb⟩ := H.better i _ hi h1
    rw [S.pa_ra i _ hi hk, h3] at hq
    injection hq with hq
    subst hq
    rw [S.pa_ra i _ hi hk] at hb
    have h2' : S.rb (S.pa j (p j)) i < S.rb (S.pa j (p j)) j := h2
    omega
/-- Two askings that have come to their ends have come to the same match. -/
theorem asked_one {S : Sides} {p h p' h'} (H : Asked S p h) (H' : Asked S p' h') (hall : ∀ i, i < S.n → p i < S.n ∧ h (S.pa i (p i)) = some i) (hall' : ∀ i, i < S.n → p' i < S.n ∧ h' (S.pa i (p' i)) = some i) : ∀ i, i < S.n → p i = p' i := by
  intro i hi
  have h1 := H.best _ (asked_stab H' hall') i hi
  have h2 := H'.best _ (asked_stab H hall) i hi
  simp only [S.ra_pa i _ hi (hall' i hi).1] at h1
  simp only [S.ra_pa i _ hi (hall i hi).1] at h2
  omega

/-- The place of a number in a list. -/
def pos : List Int → Int → Nat
  | [], _ => 0
  | x :: l, a => if x = a then 0 else pos l a + 1
theorem pos_get : ∀ (l : List Int) (a : Int), a ∈ l → ∃ h : pos l a < l.length, l[pos l a] = a := by
  intro l
  induction l with
  | nil => intro a h; cases h
  | cons x l ih =>
    intro a h
    by_cases e : x = a
    · simp [pos, e]
    · obtain ⟨h1, h2⟩ := ih a ((List.mem_cons.1 h).resolve_left (fun h => e h.symm))
      simp only [pos, if_neg e]
      exact ⟨by rw [List.length_cons]; omega, by simpa using h2⟩
theorem pos_at : ∀ {l : List Int}, l.Nodup → ∀ (r : Nat) (h : r < l.length), pos l l[r] = r := by
  intro l
  induction l with
  | nil => intro _ r h; simp at h
  | cons x l ih =>
    intro hd r h
    rw [List.nodup_cons] at hd
    cases r with
    | zero => simp [pos]
    | succ r =>
      have h' : r < l.length := by simpa using h
      have hne : ¬ x = l[r] := fun e => hd.1 (by rw [e]; exact List.getElem_mem h')
      simp only [List.getElem_cons_succ, pos, if_neg hne]
      rw [ih hd.2 r h']
theorem rank_pos (l : List Int) (hl : l.length ≤ 1048576) (a : Int) (ha : a ∈ l) : (∃ K, ∀ k, K ≤ k → spec_maRank.f k l a = some (pos l a : Int)) ∧ ∃ K, ∀ k, K ≤ k → slices_Index_int_int.f k l a = some (pos l a : Int) := by
  have key : ∀ d i, i + d = l.length → a ∈ l.drop i → (∃ K, ∀ k, K ≤ k → spec_maRank.l0 k l a (i : Int) = some ((i + pos (l.drop i) a : Nat) : Int)) ∧ ∃ K, ∀ k, K ≤ k → slices_Index_int_int.l0 k l a (l.length : Int) (i : Int) = some ((i + pos (l.drop i) a : Nat) : Int) := by
    intro d
    induction d with
    | zero =>
      intro i hi hm
      rw [List.drop_of_length_le (by omega)] at hm
      simp at hm
    | succ d ih =>
      intro i hi hm
      have hlt : i < l.length := by omega
      rw [List.drop_eq_getElem_cons hlt] at hm ⊢
      by_cases h1 : l[i] = a
      · simp only [pos, if_pos h1, Nat.add_zero]
        refine ⟨ev_suc 0 fun k _ => ?_, ev_suc 0 fun k _ => ?_⟩
        · simp only [spec_maRank.l0]
          rw [if_pos (by omega), if_pos (by omega), rd_nat l i hlt, if_pos h1]
        · simp only [slices_Index_int_int.l0]
          rw [if_pos (by omega), if_pos (by omega), if_pos (by omega), rd_nat l i hlt, if_pos h1.symm]
      · have hm2 := (List.mem_cons.1 hm).resolve_left (fun h => h1 h.symm)
        obtain ⟨⟨K1, h2⟩, ⟨K2, h3⟩⟩ := ih (i + 1) (by omega) hm2
        simp only [pos, if_neg h1]
        rw [show i + (pos (l.drop (i + 1)) a + 1) = i + 1 + pos (l.drop (i + 1)) a from by omega]
        refine ⟨ev_suc K1 fun k hk => ?_, ev_suc K2 fun k hk => ?_⟩
        · simp only [spec_maRank.l0]
          rw [if_pos (by omega), if_pos (by omega), rd_nat l i hlt, if_neg h1, w64s (by omega)]
          exact h2 k hk
        · simp only [slices_Index_int_int.l0]
          rw [if_pos (by omega), if_pos (by omega), if_pos (by omega), rd_nat l i hlt, if_neg (fun h => h1 h.symm), w64s (by omega)]
          exact h3 k hk
  have h := key l.length 0 (by omega) (by simpa using ha)
  rw [List.drop_zero, Nat.zero_add] at h
  exact h
theorem perm_facts {l : List Int} {n : Nat} (h : isMatchP l (n : Int)) : (∀ r, r < n → 0 ≤ rd l (r : Int) ∧ rd l (r : Int) < (n : Int) ∧ pos l (rd l (r : Int)) = r) ∧ ∀ k, k < n → pos l (k : Int) < n ∧ rd l (pos l (k : Int) : Int) = (k : Int) ∧ (k : Int) ∈ l := by
  have hl : l.length = n := by have := h.1; omega
  refine ⟨fun r hr => ?_, fun k hk => ?_⟩
  · rw [rd_nat l r (by omega)]
    have h1 := h.2.1 _ (List.getElem_mem (show r < l.length by omega))
    exact ⟨h1.1, h1.2, pos_at h.2.2 r (by omega)⟩
  · have hm := match_all h (k : Int) (by omega) (by omega)
    obtain ⟨h1, h2⟩ := pos_get l (k : Int) hm
    rw [rd_nat l _ h1]
    exact ⟨by omega, h2, hm⟩
def rowOf (a : List (List Int)) (i : Nat) : List Int := rd_L1 a (i : Int)
theorem row_match {a : List (List Int)} {n : Nat} (hl : a.length = n) (ha : ∀ x ∈ a, isMatchP x (n : Int)) (i : Nat) (hi : i < n) : isMatchP (rowOf a i) (n : Int) := by
  unfold rowOf
  rw [rdLL_nat a i (by omega)]
  exact ha _ (List.getElem_mem (by omega))
/-- The sides as the lists tell them. -/
def sidesOf (a b : List (List Int)) (n : Nat) (hal : a.length = n) (hbl : b.length = n) (ha : ∀ x ∈ a, isMatchP x (n : Int)) (hb : ∀ x ∈ b, isMatchP x (n : Int)) : Sides where
  n := n
  pa := fun i r => (rd (rowOf a i) (r : Int)).toNat
  ra := fun i k => pos (rowOf a i) (k : Int)
  rb := fun k i => pos (rowOf b k) (i : Int)
  pa_lt := fun i r hi hr => by have := (perm_facts (row_match hal ha i hi)).1 r hr; omega
  ra_lt := fun i k hi hk => ((perm_facts (row_match hal ha i hi)).2 k hk).1
  ra_pa := fun i r hi hr => by
    have h := (perm_facts (row_match hal ha i hi)).1 r hr
    rw [Int.toNat_of_nonneg h.1]
    exact h.2.2
  pa_ra := fun i k hi hk => by
    have h := (perm_facts (row_match hal ha i hi)).2 k hk
    rw [h.2.1]; simp
  rb_inj := fun k i j hk hi hj e => by
    have h1 := (perm_facts (row_match hbl hb k hk)).2 i hi
    have h2 := (perm_facts (row_match hbl hb k hk)).2 j hj
    have e' : pos (rowOf b k) (i : Int) = pos (rowOf b k) (j : Int) := e
    rw [e', h2.2.1] at h1
    omega
theorem rd_set (l : List Int) (i j : Nat) (x : Int) (hj : j < l.length) : rd (l.set i x) (j : Int) = if i = j then x else rd l (j : Int) := by
  rw [rd_nat _ _ (by rw [List.length_set]; exact hj), rd_nat l j hj, List.getElem_set]
/-- Where the asking stands, as the lists tell it: how often each truck asked, whom each shovel holds, who is free. -/
structure SI (S : Sides) (next of : List Int) (F : Nat → Prop) (p : Nat → Nat) (h : Nat → Option Nat) : Prop where
  H : Asked S p h
  ln : next.length = S.n
  lo : of.length = S.n
  hno : ∀ k, k < S.n → h k = none → rd of (k : Int) = -1
  hso : ∀ k i, k < S.n → h k = some i → rd of (k : Int) = (i : Int)
  fr : ∀ i, i < S.n → (F i ↔ ∀ k, k < S.n → h k ≠ some i)
  nf : ∀ i, i < S.n → F i → rd next (i : Int) = (p i : Int)
  nh : ∀ i, i < S.n → ¬ F i → rd next (i : Int) = (p i : Int) + 1
theorem SI.iff {S : Sides} {next of F F' p h} (I : SI S next of F p h) (e : ∀ i, i < S.n → (F i ↔ F' i)) : SI S next of F' p h :=
  ⟨I.H, I.ln, I.lo, I.hno, I.hso, fun i hi => (e i hi).symm.trans (I.fr i hi), fun i hi hf => I.nf i hi ((e i hi).2 hf), fun i hi hf => I.nh i hi (fun h => hf ((e i hi).1 h))⟩
theorem SI.asks {S : Sides} {next of F p h} (I : SI S next of F p h) {i : Nat} (hi : i < S.n) (hf : F i) : p i < S.n ∧ rd next (i : Int) = (p i : Int) := ⟨asked_more I.H hi ((I.fr i hi).1 hf), I.nf i hi hf⟩
theorem SI.next_le {S : Sides} {next of F p h} (I : SI S next of F p h) {i : Nat} (hi : i < S.n) : 0 ≤ rd next (i : Int) ∧ rd next (i : Int) ≤ (S.n : Int) := by
  by_cases hf : F i
  · have := I.asks hi hf; omega
  · have h1 := I.nh i hi hf
    have h2 : ∃ k, k < S.n ∧ h k = some i := by
      apply Classical.byContradiction
      intro hn
      exact hf ((I.fr i hi).2 (fun k hk e => hn ⟨k, hk, e⟩))
    obtain ⟨k, hk, e⟩ := h2
    have := (I.H.held k i hk e).2.1
    omega
theorem SI.take {S : Sides} {next of F p h} (I : SI S next of F p h) {i : Nat} (hi : i < S.n) (hf : F i) (hn : h (S.pa i (p i)) = none) :
    SI S (next.set i ((p i : Int) + 1)) (of.set (S.pa i (p i)) (i : Int)) (fun t => F t ∧ t ≠ i) p (fun k => if k = S.pa i (p i) then some i else h k) := by
  have hp := (I.asks hi hf).1
  have hk := S.pa_lt i _ hi hp
  refine ⟨asked_take I.H hi hp hn, by rw [List.length_set]; exact I.ln, by rw [List.length_set]; exact I.lo, fun k hk' e => ?_, fun k j hk' e => ?_, fun t ht => ?_, fun t ht hft => ?_, fun t ht hft => ?_⟩
  · by_cases e2 : k = S.pa i (p i)
    · simp [e2] at e
    · simp only [if_neg e2] at e
      rw [rd_set _ _ _ _ (by rw [I.lo]; exact hk'), if_neg (fun e3 => e2 e3.symm)]
      exact I.hno k hk' e
  · rw [rd_set _ _ _ _ (by rw [I.lo]; exact hk')]
    by_cases e2 : k = S.pa i (p i)
    · simp only [if_pos e2] at e
      injection e with e
      rw [if_pos e2.symm, e]
    · simp only [if_neg e2] at e
      rw [if_neg (fun e3 => e2 e3.symm)]
      exact I.hso k j hk' e
  · constructor
    · intro ⟨h1, h2⟩ k hk' e
      by_cases e2 : k = S.pa i (p i)
      · simp only [if_pos e2] at e
        injection e with e
        exact h2 e.symm
      · simp only [if_neg e2] at e
        exact (I.fr t ht).1 h1 k hk' e
    · intro h1
      refine ⟨(I.fr t ht).2 (fun k hk' e => ?_), fun e => ?_⟩
      · by_cases e2 : k = S.pa i (p i)
        · rw [e2, hn] at e; cases e
        · exact h1 k hk' (by simp only [if_neg e2]; exact e)
      · exact h1 _ hk (by simp [e])
  · rw [rd_set _ _ _ _ (by rw [I.ln]; exact ht), if_neg (fun e => hft.2 e.symm)]
    exact I.nf t ht hft.1
  · rw [rd_set _ _ _ _ (by rw [I.ln]; exact ht)]
    by_cases e : i = t
    · rw [if_pos e, e]
    · rw [if_neg e]
      exact I.nh t ht (fun h => hft ⟨h, fun e2 => e e2.symm⟩)
theorem SI.turn {S : Sides} {next of F p h} (I : SI S next of F p h) {i j : Nat} (hi : i < S.n) (hf : F i) (hn : h (S.pa i (p i)) = some j) (hb : S.rb (S.pa i (p i)) i < S.rb (S.pa i (p i)) j) :
    SI S (next.set i ((p i : Int) + 1)) (of.set (S.pa i (p i)) (i : Int)) (fun t => (F t ∧ t ≠ i) ∨ t = j) (fun x => if x = j then p j + 1 else p x) (fun k => if k = S.pa i (p i) then some i else h k) := by
  have hp := (I.asks hi hf).1
  have hk := S.pa_lt i _ hi hp
  have hij : i ≠ j := fun e => (I.fr i hi).1 hf _ hk (by rw [hn, e])
  obtain ⟨hj, hpj, hkj⟩ := I.H.held _ _ hk hn
  have hjf : ¬ F j := fun hfj => (I.fr j hj).1 hfj _ hk hn
  refine ⟨asked_turn I.H hi hp hij hn hb, by rw [List.length_set]; exact I.ln, by rw [List.length_set]; exact I.lo, fun k hk' e => ?_, fun k t hk' e => ?_, fun t ht => ?_, fun t ht hft => ?_, fun t ht hft => ?_⟩
  · by_cases e2 : k = S.pa i (p i)
    · simp [e2] at e
    · simp only [if_neg e2] at e
      rw [rd_set _ _ _ _ (by rw [I.lo]; exact hk'), if_neg (fun e3 => e2 e3.symm)]
      exact I.hno k hk' e
  · rw [rd_set _ _ _ _ (by rw [I.lo]; exact hk')]
    by_cases e2 : k = S.pa i (p i)
    · simp only [if_pos e2] at e
      injection e with e
      rw [if_pos e2.symm, e]
    · simp only [if_neg e2] at e
      rw [if_neg (fun e3 => e2 e3.symm)]
      exact I.hso k t hk' e
  · constructor
    · intro h1 k hk' e
      by_cases e2 : k = S.pa i (p i)
      · simp only [if_pos e2] at e
        injection e with e
        rcases h1 with h1 | h1
        · exact h1.2 e.symm
        · exact hij (e.trans h1)
      · simp only [if_neg e2] at e
        rcases h1 with h1 | h1
        · exact (I.fr t ht).1 h1.1 k hk' e
        · subst h1
          exact e2 ((I.H.held k t hk' e).2.2.symm.trans hkj)
    · intro h1
      by_cases e : t = j
      · exact .inr e
      · refine .inl ⟨(I.fr t ht).2 (fun k hk' e3 => ?_), fun e3 => ?_⟩
        · by_cases e2 : k = S.pa i (p i)
          · rw [e2, hn] at e3
            injection e3 with e3
            exact e e3.symm
          · exact h1 k hk' (by simp only [if_neg e2]; exact e3)
        · exact h1 _ hk (by simp [e3])
  · rw [rd_set _ _ _ _ (by rw [I.ln]; exact ht)]
    by_cases e : t = j
    · subst e
      rw [if_neg hij, if_pos rfl]
      have := I.nh t ht hjf
      omega
    · have h1 := hft.resolve_right e
      rw [if_neg (fun e2 => h1.2 e2.symm), if_neg e]
      exact I.nf t ht h1.1
  · have e : t ≠ j := fun e => hft (.inr e)
    rw [rd_set _ _ _ _ (by rw [I.ln]; exact ht), if_neg e]
    by_cases e2 : i = t
    · rw [if_pos e2, e2]
    · rw [if_neg e2]
      exact I.nh t ht (fun h => hft (.inl ⟨h, fun e3 => e2 e3.symm⟩))
theorem SI.refuse {S : Sides} {next of F p h} (I : SI S next of F p h) {i j : Nat} (hi : i < S.n) (hf : F i) (hn : h (S.pa i (p i)) = some j) (hb : S.rb (S.pa i (p i)) j < S.rb (S.pa i (p i)) i) :
    SI S (next.set i ((p i : Int) + 1)) of F (fun x => if x = i then p i + 1 else p x) h := by
  have hp := (I.asks hi hf).1
  have hk := S.pa_lt i _ hi hp
  have hij : i ≠ j := fun e => (I.fr i hi).1 hf _ hk (by rw [hn, e])
  refine ⟨asked_refuse I.H hi hp hij ((I.fr i hi).1 hf) hn hb, by rw [List.length_set]; exact I.ln, I.lo, I.hno, I.hso, I.fr, fun t ht hft => ?_, fun t ht hft => ?_⟩
  · rw [rd_set _ _ _ _ (by rw [I.ln]; exact ht)]
    by_cases e : t = i
    · subst e
      rw [if_pos rfl, if_pos rfl]
      omega
    · rw [if_neg (fun e2 => e e2.symm), if_neg e]
      exact I.nf t ht hft
  · have e : t ≠ i := fun e => hft (e ▸ hf)
    rw [rd_set _ _ _ _ (by rw [I.ln]; exact ht), if_neg (fun e2 => e e2.symm), if_neg e]
    exact I.nh t ht hft
theorem sum_set (l : List Int) : ∀ (i : Nat), i < l.length → ∀ x : Int, (l.set i x).sum = l.sum + x - rd l (i : Int) := by
  induction l with
  | nil => intro i h; simp at h
  | cons y l ih =>
    intro i h x
    cases i with
    | zero => rw [rd_nat _ _ h]; simp; omega
    | succ i =>
      have h' : i < l.length := by simpa using h
      rw [rd_nat _ _ h, List.set_cons_succ, List.sum_cons, List.sum_cons, ih i h' x, rd_nat l i h', List.getElem_cons_succ]
      omega
theorem sum_le (l : List Int) (B : Int) : (∀ i : Nat, i < l.length → rd l (i : Int) ≤ B) → l.sum ≤ B * (l.length : Int) := by
  induction l with
  | nil => intro _; simp
  | cons x l ih =>
    intro h
    have h0 := h 0 (by simp)
    have h1 := ih (fun i hi => by
      have := h (i + 1) (by simpa using hi)
      rw [rd_nat _ _ (by simpa using hi)] at this
      rw [rd_nat l i hi]
      simpa using this)
    rw [rd_nat _ _ (by simp)] at h0
    rw [List.sum_cons, List.length_cons, Int.natCast_add, Int.mul_add, Int.natCast_one, Int.mul_one]
    simp only [List.getElem_cons_zero] at h0
    omega
/-- Where nobody is free, the match is told. -/
structure Done (S : Sides) (p : Nat → Nat) (h : Nat → Option Nat) : Prop where
  H : Asked S p h
  all : ∀ i, i < S.n → p i < S.n ∧ h (S.pa i (p i)) = some i
theorem SI.done {S : Sides} {next of F p h} (I : SI S next of F p h) (hF : ∀ i, i < S.n → ¬ F i) : Done S p h := by
  refine ⟨I.H, fun i hi => ?_⟩
  have h2 : ∃ k, k < S.n ∧ h k = some i := by
    apply Classical.byContradiction
    intro hn
    exact hF i hi ((I.fr i hi).2 (fun k hk e => hn ⟨k, hk, e⟩))
  obtain ⟨k, hk, e⟩ := h2
  obtain ⟨_, h3, h4⟩ := I.H.held k i hk e
  exact ⟨h3, by rw [h4]; exact e⟩
/-- What a list tells of the match that the asking comes to. -/
structure Ends (S : Sides) (out : List Int) : Prop where
  len : out.length = S.n
  ends : ∃ p h, Done S p h ∧ ∀ i, i < S.n → rd out (i : Int) = (S.pa i (p i) : Int)
theorem ends_one {S : Sides} {x y : List Int} (hx : Ends S x) (hy : Ends S y) : x = y := by
  obtain ⟨l1, p, h, D, e1⟩ := hx
  obtain ⟨l2, p', h', D', e2⟩ := hy
  have e3 := asked_one D.H D'.H D.all D'.all
  apply List.ext_getElem (by omega)
  intro i h1 h2
  have q1 := e1 i (by omega)
  have q2 := e2 i (by omega)
  rw [rd_nat x i h1] at q1
  rw [rd_nat y i h2] at q2
  rw [q1, q2, e3 i (by omega)]
/-- What holds of both programs' askings at a step. -/
theorem ask_facts {a b : List (List Int)} {n : Nat} {hal : a.length = n} {hbl : b.length = n} {ha : ∀ x ∈ a, isMatchP x (n : Int)} {hb : ∀ x ∈ b, isMatchP x (n : Int)} {next of : List Int} {F : Nat → Prop} {p : Nat → Nat} {h : Nat → Option Nat} (I : SI (sidesOf a b n hal hbl ha hb) next of F p h) {i : Nat} (hi : i < n) (hf : F i) :
    ∃ kk : Nat, kk < n ∧ kk = (sidesOf a b n hal hbl ha hb).pa i (p i) ∧ p i < n ∧ rd next (i : Int) = (p i : Int) ∧ (rd_L1 a (i : Int)).length = n ∧ rd (rd_L1 a (i : Int)) (p i : Int) = (kk : Int) ∧ (rd_L1 b (kk : Int)).length = n := by
  obtain ⟨h1, h2⟩ := I.asks hi hf
  have h3 := row_match hal ha i hi
  have h4 := (perm_facts h3).1 (p i) h1
  refine ⟨_, (sidesOf a b n hal hbl ha hb).pa_lt i _ hi h1, rfl, h1, h2, by have := h3.1; unfold rowOf at this; omega, ?_, ?_⟩
  · show rd (rowOf a i) (p i : Int) = (((rd (rowOf a i) (p i : Int)).toNat : Nat) : Int)
    rw [Int.toNat_of_nonneg h4.1]
  · have := (row_match hbl hb _ ((sidesOf a b n hal hbl ha hb).pa_lt i _ hi h1)).1
    unfold rowOf at this
    omega
theorem sum_bound {S : Sides} {next of F p h} (I : SI S next of F p h) : next.sum ≤ (S.n : Int) * (S.n : Int) := by
  have := sum_le next (S.n : Int) (fun i hi => (I.next_le (by rw [← I.ln]; exact hi)).2)
  rw [I.ln] at this
  exact this
theorem done_all {S : Sides} {p h} (D : Done S p h) (k : Nat) (hk : k < S.n) : ∃ i, i < S.n ∧ S.pa i (p i) = k := by
  apply Classical.byContradiction
  intro hn
  have h1 := gs_pigeon S.n (k :: (List.range S.n).map fun i => S.pa i (p i)) (by
    rw [List.nodup_cons]
    constructor
    · intro hm
      obtain ⟨i, hi, e⟩ := List.mem_map.1 hm
      exact hn ⟨i, List.mem_range.1 hi, e⟩
    · rw [List.nodup_iff_pairwise_ne, List.pairwise_map]
      refine List.Pairwise.imp_of_mem ?_ (List.nodup_iff_pairwise_ne.1 List.nodup_range)
      intro i j hi hj hne e
      exact hne ((asked_stab D.H D.all).inj i j (List.mem_range.1 hi) (List.mem_range.1 hj) e))
    (fun x hx => by
      rcases List.mem_cons.1 hx with rfl | hm
      · exact hk
      · obtain ⟨i, hi, e⟩ := List.mem_map.1 hm
        rw [← e]
        exact S.pa_lt i _ (List.mem_range.1 hi) (D.all i (List.mem_range.1 hi)).1)
  simp at h1
  omega
/-- The reference's last loop. -/
def outTo (of : List Int) (n : Nat) : Nat → List Int
  | 0 => List.replicate n 0
  | k + 1 => (outTo of n k).set (rd of (k : Int)).toNat (k : Int)
theorem outTo_len (of : List Int) (n : Nat) : ∀ k, (outTo of n k).length = n := by
  intro k
  induction k with
  | zero => simp [outTo]
  | succ k ih => simp only [outTo, List.length_set]; exact ih
theorem si_of {S : Sides} {next of F p h} (I : SI S next of F p h) (D : Done S p h) (k : Nat) (hk : k < S.n) : ∃ i, i < S.n ∧ rd of (k : Int) = (i : Int) ∧ S.pa i (p i) = k := by
  obtain ⟨i, hi, e⟩ := done_all D k hk
  have h1 := (D.all i hi).2
  rw [e] at h1
  exact ⟨i, hi, I.hso k i hk h1, e⟩
theorem outTo_at {S : Sides} {next of F p h} (I : SI S next of F p h) (D : Done S p h) : ∀ m, m ≤ S.n → ∀ i, i < S.n → S.pa i (p i) < m → rd (outTo of S.n m) (i : Int) = (S.pa i (p i) : Int) := by
  intro m
  induction m with
  | zero => intro _ i _ h; omega
  | succ m ih =>
    intro hm i hi hlt
    obtain ⟨t, ht, e1, e2⟩ := si_of I D m (by omega)
    simp only [outTo]
    rw [e1, Int.toNat_natCast, rd_set _ _ _ _ (by rw [outTo_len]; exact hi)]
    by_cases e : t = i
    · rw [if_pos e, ← e, e2]
    · rw [if_neg e]
      refine ih (by omega) i hi ?_
      have hne : S.pa i (p i) ≠ m := fun e3 => e ((asked_stab D.H D.all).inj t i ht hi (e2.trans e3.symm))
      omega
section
variable {a b : List (List Int)} {n : Nat} (hn : n ≤ 7) (hal : a.length = n) (hbl : b.length = n) (ha : ∀ x ∈ a, isMatchP x (n : Int)) (hb : ∀ x ∈ b, isMatchP x (n : Int))
include hn
set_option maxHeartbeats 4000000 in
theorem spec_ask : ∀ (e : Nat) (next of free : List Int) (p : Nat → Nat) (h : Nat → Option Nat), next.sum + (e : Int) = (n : Int) * (n : Int) + 1 → free.Nodup → (∀ x ∈ free, 0 ≤ x ∧ x < (n : Int)) → SI (sidesOf a b n hal hbl ha hb) next of (fun t => (t : Int) ∈ free) p h → ∃ out, Ends (sidesOf a b n hal hbl ha hb) out ∧ ∃ K, ∀ k, K ≤ k → spec_maStable.l2 k a b (n : Int) next of free = some out := by
  intro e
  induction e with
  | zero =>
    intro next of free p h hs _ _ I
    have := sum_bound I
    have e1 : (sidesOf a b n hal hbl ha hb).n = n := rfl
    rw [e1] at this
    omega
  | succ e ih =>
    intro next of free p h hs hd hr I
    have hSn : (sidesOf a b n hal hbl ha hb).n = n := rfl
    have hfl : free.length ≤ n := pigeon n free hd hr
    cases free with
    | nil =>
      have D := I.done (fun i _ hm => by cases hm)
      refine ⟨outTo of n n, ⟨outTo_len of n n, p, h, D, fun i hi => outTo_at I D n (Nat.le_refl _) i hi ((sidesOf a b n hal hbl ha hb).pa_lt i _ hi (D.all i hi).1)⟩, ?_⟩
      have h1 := ev_loop (F := fun k i => spec_maStable.l3 k (outTo of n i) of (of.length : Int) (i : Int)) (n := n) (res := fun _ => outTo of n n)
        (ev_suc 0 fun k _ => by simp only [spec_maStable.l3]; rw [if_neg (by rw [I.lo, hSn]; omega)])
        (fun i hi K hK => by
          obtain ⟨t, ht, e1, _⟩ := si_of I D i hi
          have ht' : t < n := ht
          have hlo : of.length = n := I.lo
          refine ev_suc K fun k hk => ?_
          simp only [spec_maStable.l3]
          rw [if_pos (by omega), if_pos (by omega), if_pos (by omega), e1, if_pos (by omega), if_pos (by rw [outTo_len]; omega), w64s (by omega)]
          have := hK k hk
          simp only [outTo] at this
          rw [e1] at this
          exact this) 0 (Nat.zero_le _)
      obtain ⟨K, h1⟩ := h1
      refine ev_suc K fun k hk => ?_
      simp only [spec_maStable.l2]
      rw [if_neg (by simp), if_pos (by omega), if_pos (by omega), Int.toNat_natCast]
      have := h1 k hk
      simpa [outTo] using this
    | cons x rest =>
      have hx := hr x (List.mem_cons_self)
      obtain ⟨i, rfl⟩ := Int.eq_ofNat_of_zero_le hx.1
      have hi : i < n := by omega
      have hf : ((i : Nat) : Int) ∈ ((i : Int) :: rest) := List.mem_cons_self
      rw [List.nodup_cons] at hd
      have hrest : ∀ x ∈ rest, 0 ≤ x ∧ x < (n : Int) := fun x hx => hr x (List.mem_cons_of_mem _ hx)
      obtain ⟨kk, hkn, hkk, hp, hnx, hla, hka, hlb⟩ := ask_facts I hi hf
      have hnl : next.length = n := I.ln
      have hol : of.length = n := I.lo
      have z1 : (0 : Int) ≤ (i : Int) := Int.natCast_nonneg _
      have z2 : (i : Int) < (a.length : Int) := by rw [hal]; exact Int.ofNat_lt.2 hi
      have z3 : (i : Int) < (next.length : Int) := by rw [hnl]; exact Int.ofNat_lt.2 hi
      have z4 : (0 : Int) ≤ (p i : Int) := Int.natCast_nonneg _
      have z5 : (p i : Int) < ((rd_L1 a (i : Int)).length : Int) := by rw [hla]; exact Int.ofNat_lt.2 hp
      have z6 : (0 : Int) ≤ (kk : Int) := Int.natCast_nonneg _
      have z7 : (kk : Int) < (of.length : Int) := by rw [hol]; exact Int.ofNat_lt.2 hkn
      have z8 : (kk : Int) < (b.length : Int) := by rw [hbl]; exact Int.ofNat_lt.2 hkn
      have hw : wrap64 ((p i : Int) + 1) = (p i : Int) + 1 := w64 (by omega) (by omega)
      have hsum : (next.set i ((p i : Int) + 1)).sum + (e : Int) = (n : Int) * (n : Int) + 1 := by
        rw [sum_set next i (by omega), hnx]; omega
      have hrd0 : rd ((i : Int) :: rest) 0 = (i : Int) := by simp [rd]
      have q1 : ((((i : Int) :: rest).length : Nat) : Int) > 0 := by rw [List.length_cons]; exact Int.ofNat_lt.2 (Nat.succ_pos _)
      have q2 : (1 : Int) ≤ ((((i : Int) :: rest).length : Nat) : Int) := q1
      have q3 : ((i : Int) :: rest).drop (1 : Int).toNat = rest := rfl
      have q4 : rest.length < 17592186044416 := Nat.lt_of_lt_of_le (Nat.lt_of_lt_of_le (Nat.lt_succ_self _) (by rw [List.length_cons] at hfl; exact hfl)) (Nat.le_trans hn (by decide))
      have head : ∀ k, spec_maStable.l2 (k + 1) a b (n : Int) next of ((i : Int) :: rest) = (if rd of (kk : Int) < 0 then spec_maStable.l2 k a b (n : Int) (next.set i ((p i : Int) + 1)) (of.set kk (i : Int)) rest else ((spec_maRank.f k (rd_L1 b (kk : Int)) (i : Int)).bind fun t202 => ((spec_maRank.f k (rd_L1 b (kk : Int)) (rd of (kk : Int))).bind fun t204 => (if t202 < t204 then spec_maStable.l2 k a b (n : Int) (next.set i ((p i : Int) + 1)) (of.set kk (i : Int)) (rest ++ [rd of (kk : Int)]) else spec_maStable.l2 k a b (n : Int) (next.set i ((p i : Int) + 1)) of (rest ++ [(i : Int)]))))) := fun k => by
        simp only [spec_maStable.l2, hrd0, q3]
        rw [if_pos q1, if_pos q1, if_pos q2]
        simp only [Option.bind_some]
        rw [if_pos z1, if_pos z2, if_pos z3, hnx, if_pos z4, if_pos z5]
        rw [hka, Int.toNat_natCast, Int.toNat_natCast, hw]
        rw [if_pos z6, if_pos z7]
        by_cases g : rd of (kk : Int) < 0
        · rw [if_pos g, if_pos g]
        · rw [if_neg g, if_neg g, if_pos z8]
          simp only [q4, if_true]
      cases hk : h kk with
      | none =>
        have e1 := I.hno kk hkn hk
        have I2 := (I.take hi hf (by rw [← hkk]; exact hk)).iff (F' := fun t => (t : Int) ∈ rest) (fun t ht => by
          rw [List.mem_cons]
          constructor
          · intro ⟨h1, h2⟩; exact h1.resolve_left (by omega)
          · intro h1; exact ⟨.inr h1, fun e2 => hd.1 (by rw [← e2]; exact h1)⟩)
        rw [← hkk] at I2
        obtain ⟨out, E, K, hK⟩ := ih _ _ rest _ _ hsum hd.2 hrest I2
        refine ⟨out, E, ev_suc K fun k hk2 => ?_⟩
        rw [head k, if_pos (by omega)]
        exact hK k hk2
      | some j =>
        have e1 := I.hso kk j hkn hk
        obtain ⟨hj, _, _⟩ := I.H.held kk j hkn hk
        have hj' : j < n := hj
        have m1 := (perm_facts (row_match hbl hb kk hkn)).2 i hi
        have m2 := (perm_facts (row_match hbl hb kk hkn)).2 j hj'
        have hrl : (rowOf b kk).length ≤ 1048576 := by unfold rowOf; omega
        obtain ⟨⟨K1, r1⟩, _⟩ := rank_pos (rowOf b kk) hrl (i : Int) m1.2.2
        obtain ⟨⟨K2, r2⟩, _⟩ := rank_pos (rowOf b kk) hrl (j : Int) m2.2.2
        have hij : i ≠ j := fun e2 => (I.fr i hi).1 hf kk hkn (by rw [hk, e2])
        have hjf : ¬ (j : Int) ∈ ((i : Int) :: rest) := fun hm => (I.fr j hj).1 hm kk hkn hk
        by_cases g : pos (rowOf b kk) (i : Int) < pos (rowOf b kk) (j : Int)
        · have I2 := (I.turn hi hf (by rw [← hkk]; exact hk) (by rw [← hkk]; exact g)).iff (F' := fun t => (t : Int) ∈ rest ++ [(j : Int)]) (fun t ht => by
            rw [List.mem_cons, List.mem_append, List.mem_singleton]
            constructor
            · rintro (⟨h1, h2⟩ | h1)
              · exact .inl (h1.resolve_left (by omega))
              · exact .inr (by omega)
            · rintro (h1 | h1)
              · exact .inl ⟨.inr h1, fun e2 => hd.1 (by rw [← e2]; exact h1)⟩
              · exact .inr (by omega))
          rw [← hkk] at I2
          obtain ⟨out, E, K, hK⟩ := ih _ _ (rest ++ [(j : Int)]) _ _ hsum (by
            rw [List.nodup_append]
            refine ⟨hd.2, by simp, fun x hx y hy e2 => ?_⟩
            rw [List.mem_singleton] at hy
            exact hjf (List.mem_cons_of_mem _ (by rw [← hy, ← e2]; exact hx))) (fun x hx => by
            rcases List.mem_append.1 hx with hx | hx
            · exact hrest x hx
            · rw [List.mem_singleton] at hx; omega) I2
          refine ⟨out, E, ev_suc (K + K1 + K2) fun k hk2 => ?_⟩
          have q1 := r1 k (by omega)
          have q2 := r2 k (by omega)
          unfold rowOf at q1 q2
          rw [head k, if_neg (by omega), e1, q1, q2]
          simp only [Option.bind_some]
          unfold rowOf at g
          rw [if_pos (by omega)]
          exact hK k (by omega)
        · have g2 : pos (rowOf b kk) (j : Int) < pos (rowOf b kk) (i : Int) := by
            rcases Nat.lt_or_ge (pos (rowOf b kk) (j : Int)) (pos (rowOf b kk) (i : Int)) with h1 | h1
            · exact h1
            · exact absurd ((sidesOf a b n hal hbl ha hb).rb_inj kk i j hkn hi hj' (show pos (rowOf b kk) (i : Int) = pos (rowOf b kk) (j : Int) by omega)) hij
          have I2 := (I.refuse hi hf (by rw [← hkk]; exact hk) (by rw [← hkk]; exact g2)).iff (F' := fun t => (t : Int) ∈ rest ++ [(i : Int)]) (fun t ht => by
            rw [List.mem_cons, List.mem_append, List.mem_singleton, Or.comm])
          obtain ⟨out, E, K, hK⟩ := ih _ _ (rest ++ [(i : Int)]) _ _ hsum (by
            rw [List.nodup_append]
            refine ⟨hd.2, by simp, fun x hx y hy e2 => ?_⟩
            rw [List.mem_singleton] at hy
            exact hd.1 (by rw [← hy, ← e2]; exact hx)) (fun x hx => by
            rcases List.mem_append.1 hx with hx | hx
            · exact hrest x hx
            · rw [List.mem_singleton] at hx; omega) I2
          refine ⟨out, E, ev_suc (K + K1 + K2) fun k hk2 => ?_⟩
          have q1 := r1 k (by omega)
          have q2 := r2 k (by omega)
          unfold rowOf at q1 q2
          rw [head k, if_neg (by omega), e1, q1, q2]
          simp only [Option.bind_some]
          unfold rowOf at g
          rw [if_neg (by omega)]
          exact hK k (by omega)
/-- What the program's lists tell while it asks. -/
structure II (S : Sides) (mt asked holds : List Int) (F : Nat → Prop) (p : Nat → Nat) (h : Nat → Option Nat) : Prop where
  I : SI S asked holds F p h
  lm : mt.length = S.n
  mt : ∀ t, t < S.n → ¬ F t → rd mt (t : Int) = (S.pa t (p t) : Int)
set_option maxHeartbeats 4000000 in
theorem impl_ask : ∀ (d i : Nat), i + d = n → ∀ (mt asked holds : List Int) (p : Nat → Nat) (h : Nat → Option Nat), II (sidesOf a b n hal hbl ha hb) mt asked holds (fun t => i ≤ t) p h → ∃ out, Ends (sidesOf a b n hal hbl ha hb) out ∧ ∃ K, ∀ k, K ≤ k → impl_StableMatch.l1 k a b mt holds asked (i : Int) = some (out, true) := by
  have hSn : (sidesOf a b n hal hbl ha hb).n = n := rfl
  intro d
  induction d with
  | zero =>
    intro i hi mt asked holds p h I
    have D := I.I.done (fun t ht hf => by have : t < n := ht; have : i ≤ t := hf; omega)
    refine ⟨mt, ⟨I.lm, p, h, D, fun t ht => I.mt t ht (fun hf => by have : t < n := ht; have : i ≤ t := hf; omega)⟩, ev_suc 0 fun k _ => ?_⟩
    simp only [impl_StableMatch.l1]
    rw [if_neg (by omega)]
  | succ d ihd =>
    intro i hi mt asked holds p h I
    have hin : i < n := by omega
    have inner : ∀ (e : Nat) (mt asked holds : List Int) (at_ : Int) (p : Nat → Nat) (h : Nat → Option Nat), asked.sum + (e : Int) = (n : Int) * (n : Int) + 1 → ((at_ = -1 ∧ II (sidesOf a b n hal hbl ha hb) mt asked holds (fun t => i < t) p h) ∨ ∃ t0 : Nat, at_ = (t0 : Int) ∧ t0 ≤ i ∧ II (sidesOf a b n hal hbl ha hb) mt asked holds (fun t => t = t0 ∨ i < t) p h) → ∃ out, Ends (sidesOf a b n hal hbl ha hb) out ∧ ∃ K, ∀ k, K ≤ k → impl_StableMatch.l2 k a b mt holds asked (i : Int) at_ = some (out, true) := by
      intro e
      induction e with
      | zero =>
        intro mt asked holds at_ p h hs hI
        exfalso
        have hz : asked.sum ≤ ((sidesOf a b n hal hbl ha hb).n : Int) * ((sidesOf a b n hal hbl ha hb).n : Int) := by
          rcases hI with ⟨_, I2⟩ | ⟨t0, _, _, I2⟩
          · exact sum_bound I2.I
          · exact sum_bound I2.I
        rw [hSn] at hz
        omega
      | succ e ih =>
        intro mt asked holds at_ p h hs hI
        rcases hI with ⟨rfl, I2⟩ | ⟨t0, rfl, ht0, I2⟩
        · obtain ⟨out, E, K, hK⟩ := ihd (i + 1) (by omega) mt asked holds p h ⟨I2.I.iff (fun t _ => Iff.rfl), I2.lm, I2.mt⟩
          refine ⟨out, E, ev_suc K fun k hk => ?_⟩
          simp only [impl_StableMatch.l2]
          rw [if_neg (by omega), w64s (by omega)]
          exact hK k hk
        · have hi' : t0 < n := by omega
          have hf : t0 = t0 ∨ i < t0 := .inl rfl
          obtain ⟨kk, hkn, hkk, hp, hnx, hla, hka, hlb⟩ := ask_facts I2.I hi' hf
          have hnl : asked.length = n := I2.I.ln
          have hol : holds.length = n := I2.I.lo
          have hml : mt.length = n := I2.lm
          have hsum : (asked.set t0 ((p t0 : Int) + 1)).sum + (e : Int) = (n : Int) * (n : Int) + 1 := by
            rw [sum_set asked t0 (by omega), hnx]; omega
          have z1 : (0 : Int) ≤ (t0 : Int) := Int.natCast_nonneg _
          have z1' : (t0 : Int) ≥ 0 := z1
          have z2 : (t0 : Int) < (a.length : Int) := by rw [hal]; exact Int.ofNat_lt.2 hi'
          have z3 : (t0 : Int) < (asked.length : Int) := by rw [hnl]; exact Int.ofNat_lt.2 hi'
          have z4 : (0 : Int) ≤ (p t0 : Int) := Int.natCast_nonneg _
          have z5 : (p t0 : Int) < ((rd_L1 a (t0 : Int)).length : Int) := by rw [hla]; exact Int.ofNat_lt.2 hp
          have z6 : (0 : Int) ≤ (kk : Int) := Int.natCast_nonneg _
          have z7 : (kk : Int) < (holds.length : Int) := by rw [hol]; exact Int.ofNat_lt.2 hkn
          have z8 : (kk : Int) < (b.length : Int) := by rw [hbl]; exact Int.ofNat_lt.2 hkn
          have z9 : (t0 : Int) < (mt.length : Int) := by rw [hml]; exact Int.ofNat_lt.2 hi'
          have hw : wrap64 ((p t0 : Int) + 1) = (p t0 : Int) + 1 := w64 (by omega) (by omega)
          have head : ∀ k, impl_StableMatch.l2 (k + 1) a b mt holds asked (i : Int) (t0 : Int) = (if rd holds (kk : Int) ≥ 0 then ((slices_Index_int_int.f k (rd_L1 b (kk : Int)) (rd holds (kk : Int))).bind fun t251 => ((slices_Index_int_int.f k (rd_L1 b (kk : Int)) (t0 : Int)).bind fun t253 => (if t251 < t253 then impl_StableMatch.l2 k a b mt holds (asked.set t0 ((p t0 : Int) + 1)) (i : Int) (t0 : Int) else impl_StableMatch.l2 k a b (mt.set t0 (kk : Int)) (holds.set kk (t0 : Int)) (asked.set t0 ((p t0 : Int) + 1)) (i : Int) (rd holds (kk : Int))))) else impl_StableMatch.l2 k a b (mt.set t0 (kk : Int)) (holds.set kk (t0 : Int)) (asked.set t0 ((p t0 : Int) + 1)) (i : Int) (rd holds (kk : Int))) := fun k => by
            simp only [impl_StableMatch.l2]
            rw [if_pos z1', if_pos z1, if_pos z2, if_pos z3, hnx, if_pos z4, if_pos z5]
            simp only [Option.bind_some]
            rw [hka, Int.toNat_natCast, Int.toNat_natCast, hw]
            rw [if_pos z6, if_pos z7]
            by_cases g : rd holds (kk : Int) ≥ 0
            · rw [if_pos g, if_pos g, if_pos z8]
              simp only [z9, if_true]
            · rw [if_neg g, if_neg g, if_pos z9]
          cases hk : h kk with
          | none =>
            have e1 := I2.I.hno kk hkn hk
            have I3 := (I2.I.take hi' hf (by rw [← hkk]; exact hk)).iff (F' := fun t => i < t) (fun t ht => ⟨fun h1 => h1.1.resolve_left h1.2, fun h1 => ⟨.inr h1, by omega⟩⟩)
            have M3 : ∀ t, t < n → ¬ i < t → rd (mt.set t0 (kk : Int)) (t : Int) = ((sidesOf a b n hal hbl ha hb).pa t (p t) : Int) := fun t ht hft => by
              rw [rd_set _ _ _ _ (by omega)]
              by_cases e2 : t0 = t
              · rw [if_pos e2, hkk, e2]
              · rw [if_neg e2]
                exact I2.mt t ht (fun h1 => h1.elim (fun h2 => e2 h2.symm) hft)
            rw [← hkk] at I3
            obtain ⟨out, E, K, hK⟩ := ih (mt.set t0 (kk : Int)) _ _ (-1) _ _ hsum (.inl ⟨rfl, I3, by rw [List.length_set]; exact I2.lm, M3⟩)
            refine ⟨out, E, ev_suc K fun k hk2 => ?_⟩
            rw [head k, if_neg (by omega), e1]
            exact hK k hk2
          | some j =>
            have e1 := I2.I.hso kk j hkn hk
            obtain ⟨hj, _, _⟩ := I2.I.H.held kk j hkn hk
            have hj' : j < n := hj
            have m1 := (perm_facts (row_match hbl hb kk hkn)).2 t0 hi'
            have m2 := (perm_facts (row_match hbl hb kk hkn)).2 j hj'
            have hrl : (rowOf b kk).length ≤ 1048576 := by unfold rowOf; omega
            obtain ⟨_, K1, r1⟩ := rank_pos (rowOf b kk) hrl (t0 : Int) m1.2.2
            obtain ⟨_, K2, r2⟩ := rank_pos (rowOf b kk) hrl (j : Int) m2.2.2
            have hij : t0 ≠ j := fun e2 => (I2.I.fr t0 hi').1 hf kk hkn (by rw [hk, e2])
            have hjf : ¬ (j = t0 ∨ i < j) := fun hm => (I2.I.fr j hj).1 hm kk hkn hk
            by_cases g : pos (rowOf b kk) (j : Int) < pos (rowOf b kk) (t0 : Int)
            · have I3 := I2.I.refuse hi' hf (by rw [← hkk]; exact hk) (by rw [← hkk]; exact g)
              obtain ⟨out, E, K, hK⟩ := ih mt _ _ (t0 : Int) _ _ hsum (.inr ⟨t0, rfl, ht0, I3, I2.lm, fun t ht hft => by
                rw [if_neg (fun e2 => hft (.inl e2))]
                exact I2.mt t ht hft⟩)
              refine ⟨out, E, ev_suc (K + K1 + K2) fun k hk2 => ?_⟩
              have q1 := r1 k (by omega)
              have q2 := r2 k (by omega)
              unfold rowOf at q1 q2 g
              rw [head k, e1, if_pos (by omega), q2, q1]
              simp only [Option.bind_some]
              rw [if_pos (by omega)]
              exact hK k (by omega)
            · have g2 : pos (rowOf b kk) (t0 : Int) < pos (rowOf b kk) (j : Int) := by
                rcases Nat.lt_or_ge (pos (rowOf b kk) (t0 : Int)) (pos (rowOf b kk) (j : Int)) with h1 | h1
                · exact h1
                · exact absurd ((sidesOf a b n hal hbl ha hb).rb_inj kk t0 j hkn hi' hj' (show pos (rowOf b kk) (t0 : Int) = pos (rowOf b kk) (j : Int) by omega)) hij
              have I3 := (I2.I.turn hi' hf (by rw [← hkk]; exact hk) (by rw [← hkk]; exact g2)).iff (F' := fun t => t = j ∨ i < t) (fun t ht => by
                constructor
                · rintro (⟨h1, h2⟩ | h1)
                  · exact .inr (h1.resolve_left h2)
                  · exact .inl h1
                · rintro (h1 | h1)
                  · exact .inr h1
                  · exact .inl ⟨.inr h1, by omega⟩)
              have M3 : ∀ t, t < n → ¬ (t = j ∨ i < t) → rd (mt.set t0 (kk : Int)) (t : Int) = ((sidesOf a b n hal hbl ha hb).pa t (if t = j then p j + 1 else p t) : Int) := fun t ht hft => by
                rw [if_neg (fun e2 => hft (.inl e2)), rd_set _ _ _ _ (by omega)]
                by_cases e2 : t0 = t
                · rw [if_pos e2, hkk, e2]
                · rw [if_neg e2]
                  exact I2.mt t ht (fun h1 => h1.elim (fun h2 => e2 h2.symm) (fun h2 => hft (.inr h2)))
              rw [← hkk] at I3
              obtain ⟨out, E, K, hK⟩ := ih (mt.set t0 (kk : Int)) _ _ (j : Int) _ _ hsum (.inr ⟨j, rfl, by omega, I3, by rw [List.length_set]; exact I2.lm, M3⟩)
              refine ⟨out, E, ev_suc (K + K1 + K2) fun k hk2 => ?_⟩
              have q1 := r1 k (by omega)
              have q2 := r2 k (by omega)
              unfold rowOf at q1 q2 g
              rw [head k, e1, if_pos (by omega), q2, q1]
              simp only [Option.bind_some]
              rw [if_neg (by omega)]
              exact hK k (by omega)
    have hsb := sum_bound I.I
    rw [hSn] at hsb
    obtain ⟨e, he⟩ := Int.eq_ofNat_of_zero_le (show 0 ≤ (n : Int) * (n : Int) + 1 - asked.sum by omega)
    obtain ⟨out, E, K, hK⟩ := inner e mt asked holds (i : Int) p h (by omega) (.inr ⟨i, rfl, Nat.le_refl _, I.I.iff (fun t _ => ⟨fun (h1 : i ≤ t) => (show t = i ∨ i < t by omega), fun (h1 : t = i ∨ i < t) => (show i ≤ t by omega)⟩), I.lm, fun t ht hft => I.mt t ht (fun h1 => hft (by have h1' : i ≤ t := h1; omega))⟩)
    refine ⟨out, E, ev_suc K fun k hk => ?_⟩
    simp only [impl_StableMatch.l1]
    rw [if_pos (by omega)]
    exact hK k hk
omit hn in
theorem si_start (of next : List Int) (hof : of = List.replicate n (-1)) (hnx : next = List.replicate n 0) : SI (sidesOf a b n hal hbl ha hb) next of (fun _ => True) (fun _ => 0) (fun _ => none) := by
  subst hof hnx
  refine ⟨asked_start _, by simp [sidesOf], by simp [sidesOf], fun k hk _ => ?_, (fun k i _ h => by cases h), fun i _ => ⟨(fun _ k _ h => by cases h), fun _ => trivial⟩, fun i hi _ => ?_, fun i _ h => absurd trivial h⟩
  · have : k < n := hk
    rw [rd_nat _ _ (by simpa using this)]; simp
  · have : i < n := hi
    rw [rd_nat _ _ (by simpa using this)]; simp
theorem spec_stable : ∃ out, Ends (sidesOf a b n hal hbl ha hb) out ∧ ∃ K, ∀ k, K ≤ k → spec_maStable.f k a b = some out := by
  have hI := si_start hal hbl ha hb (List.replicate n (-1)) (List.replicate n 0) rfl rfl
  have hfr : ∀ m, (((List.range m).map fun (j : Nat) => (j : Int))).Nodup := fun m => by
    rw [List.nodup_iff_pairwise_ne, List.pairwise_map]
    exact List.Pairwise.imp (fun h e => h (by omega)) (List.nodup_iff_pairwise_ne.1 List.nodup_range)
  have hI2 := hI.iff (F' := fun t => (t : Int) ∈ (List.range n).map fun (j : Nat) => (j : Int)) (fun t ht => ⟨fun _ => List.mem_map.2 ⟨t, List.mem_range.2 ht, rfl⟩, fun _ => trivial⟩)
  obtain ⟨out, E, K, hK⟩ := spec_ask hn hal hbl ha hb (n * n + 1) (List.replicate n 0) (List.replicate n (-1)) ((List.range n).map fun (j : Nat) => (j : Int)) _ _ (by rw [List.sum_replicate_int]; simp) (hfr n) (fun x hx => by obtain ⟨j, hj, rfl⟩ := List.mem_map.1 hx; have := List.mem_range.1 hj; omega) hI2
  have h1 := ev_loop (F := fun k i => spec_maStable.l1 k a b (n : Int) (List.replicate n 0) (List.replicate n (-1)) ((List.range i).map fun (j : Nat) => (j : Int)) (n : Int) (i : Int)) (n := n) (res := fun _ => out)
    (ev_suc K fun k hk => by simp only [spec_maStable.l1]; rw [if_neg (by omega)]; exact hK k hk)
    (fun i hi K hK => ev_suc K fun k hk => by
      simp only [spec_maStable.l1]
      rw [if_pos (by omega), if_pos (by simp; omega), w64s (by omega)]
      have := hK k hk
      rw [List.range_succ, List.map_append] at this
      exact this) 0 (Nat.zero_le _)
  obtain ⟨K1, h1⟩ := h1
  have h2 := ev_loop (F := fun k i => spec_maStable.l0 k a b (n : Int) (List.replicate n 0) ((List.replicate n (-1)).take i ++ List.replicate ((List.replicate n (-1 : Int)).length - i) 0) (n : Int) (i : Int)) (n := n) (res := fun _ => out)
    (ev_suc K1 fun k hk => by
      simp only [spec_maStable.l0]
      rw [if_neg (by omega)]
      have := h1 k hk
      rw [hal]
      simpa using this)
    (fun i hi K hK => ev_suc K fun k hk => by
      have hil : i < (List.replicate n (-1 : Int)).length := by simpa using hi
      have h3 := fill_step (List.replicate n (-1 : Int)) 0 i hil
      rw [List.getElem_replicate] at h3
      simp only [spec_maStable.l0]
      rw [if_pos (by omega), if_pos (by omega), if_pos (by rw [fill_length _ _ _ (by omega)]; simp; omega), Int.toNat_natCast, h3, w64s (by omega)]
      exact hK k hk) 0 (Nat.zero_le _)
  obtain ⟨K2, h2⟩ := h2
  refine ⟨out, E, K2, fun k hk => ?_⟩
  unfold spec_maStable.f
  rw [hal, if_pos (by omega), if_pos (by omega), Int.toNat_natCast]
  simp only [Option.bind_some]
  have := h2 k hk
  simpa using this
theorem impl_stable : ∃ out, Ends (sidesOf a b n hal hbl ha hb) out ∧ ∃ K, ∀ k, K ≤ k → impl_StableMatch.l0 k a b (List.replicate n 0) (List.replicate n 0) (n : Int) 0 = some (out, true) := by
  have hI := si_start hal hbl ha hb (List.replicate n (-1)) (List.replicate n 0) rfl rfl
  obtain ⟨out, E, K, hK⟩ := impl_ask hn hal hbl ha hb n 0 (by omega) (List.replicate n (-1)) (List.replicate n 0) (List.replicate n (-1)) _ _ ⟨hI.iff (F' := fun t => 0 ≤ t) (fun t _ => ⟨fun _ => Nat.zero_le _, fun _ => trivial⟩), by simp [sidesOf], fun t _ hf => absurd (Nat.zero_le _) hf⟩
  have h2 := ev_loop (F := fun k i => impl_StableMatch.l0 k a b ((List.replicate n (-1)).take i ++ List.replicate ((List.replicate n (-1 : Int)).length - i) 0) ((List.replicate n (-1)).take i ++ List.replicate ((List.replicate n (-1 : Int)).length - i) 0) (n : Int) (i : Int)) (n := n) (res := fun _ => (out, true))
    (ev_suc K fun k hk => by
      simp only [impl_StableMatch.l0]
      rw [if_neg (by omega), if_pos (by omega), if_pos (by omega), hal, Int.toNat_natCast]
      have := hK k hk
      simpa using this)
    (fun i hi K hK => ev_suc K fun k hk => by
      have hil : i < (List.replicate n (-1 : Int)).length := by simpa using hi
      have h3 := fill_step (List.replicate n (-1 : Int)) 0 i hil
      rw [List.getElem_replicate] at h3
      simp only [impl_StableMatch.l0]
      rw [if_pos (by omega), if_pos (by omega), if_pos (by rw [fill_length _ _ _ (by omega)]; simp; omega), if_pos (by rw [fill_length _ _ _ (by omega)]; simp; omega), Int.toNat_natCast, h3, w64s (by omega)]
      exact hK k hk) 0 (Nat.zero_le _)
  obtain ⟨K2, h2⟩ := h2
  exact ⟨out, E, K2, fun k hk => by have := h2 k hk; simpa using this⟩
end
theorem stable_both (a b : List (List Int)) (hla : a.length ≤ 1048576) (hxa : ∀ x ∈ a, x.length ≤ 1048576) (hlb : b.length ≤ 1048576) (hxb : ∀ x ∈ b, x.length ≤ 1048576) : ∃ (g : List Int) (x : Bool), (∃ K, ∀ k, K ≤ k → spec_StableMatch.f k a b = some (g, x)) ∧ (∃ K, ∀ k, K ≤ k → impl_StableMatch.f k a b = some (g, x)) ∧ g.length ≤ 7 ∧ x = sidesOk a b ∧ (sidesOk a b = true → ∃ (hal : a.length = a.length) (hbl : b.length = a.length) (ha : ∀ x ∈ a, isMatchP x (a.length : Int)) (hb : ∀ x ∈ b, isMatchP x (a.length : Int)), Ends (sidesOf a b a.length hal hbl ha hb) g) := by
  obtain ⟨⟨K1, h1⟩, K2, h2⟩ := sides_both a b hla hxa hlb hxb
  by_cases hc : sidesOk a b = true
  · have hs := hc
    unfold sidesOk at hs
    simp only [Bool.and_eq_true, decide_eq_true_eq] at hs
    obtain ⟨p1, p2, p3⟩ := hs
    obtain ⟨a1, a2, a3⟩ := (prefsOk_iff a).1 p1
    obtain ⟨b1, b2, b3⟩ := (prefsOk_iff b).1 p2
    have hb : ∀ x ∈ b, isMatchP x (a.length : Int) := fun x hx => by rw [p3]; exact b1 x hx
    obtain ⟨g, E, K3, h3⟩ := spec_stable a3 rfl p3.symm a1 hb
    obtain ⟨g2, E2, K4, h4⟩ := impl_stable a3 rfl p3.symm a1 hb
    have eg := ends_one E E2
    subst eg
    refine ⟨g, true, ⟨K1 + K3, fun k hk => ?_⟩, ⟨K2 + K4, fun k hk => ?_⟩, by have := E.len; have e : (sidesOf a b a.length rfl p3.symm a1 hb).n = a.length := rfl; omega, hc.symm, fun _ => ⟨rfl, p3.symm, a1, hb, E⟩⟩
    · unfold spec_StableMatch.f
      rw [h1 k (by omega)]
      simp only [Option.bind_some]
      rw [if_pos hc, h3 k (by omega)]
      rfl
    · unfold impl_StableMatch.f
      rw [h2 k (by omega)]
      simp only [Option.bind_some]
      rw [if_pos hc, ← p3, if_pos (by omega), if_pos (by omega), if_pos (by omega), if_pos (by omega), Int.toNat_natCast]
      exact h4 k (by omega)
  · refine ⟨[], false, ⟨K1, fun k hk => ?_⟩, ⟨K2, fun k hk => ?_⟩, by simp, (Bool.eq_false_iff.mpr hc).symm, fun h => absurd h hc⟩
    · unfold spec_StableMatch.f
      rw [h1 k hk]
      simp only [Option.bind_some]
      rw [if_neg hc]
    · unfold impl_StableMatch.f
      rw [h2 k hk]
      simp only [Option.bind_some]
      rw [if_neg hc]
theorem FnExactStableMatch (a b : List (List Int)) (hl : a.length ≤ maxLen) (hw : ∀ x ∈ a, x.length ≤ maxLen ∧ ∀ z ∈ x, (Lit.int .i64 z).wf = true) (hl' : b.length ≤ maxLen) (hw' : ∀ x ∈ b, x.length ≤ maxLen ∧ ∀ z ∈ x, (Lit.int .i64 z).wf = true) : ∃ k, MFnExactStableMatch.Told k a b := by
  obtain ⟨r, ⟨K0, h0⟩, hr⟩ := szIntSS_ev a 1048576 (by omega) hl (fun x hx => (hw x hx).1)
  by_cases hneg : r < 0
  · exact ⟨K0, .inl ⟨r, h0 K0 (Nat.le_refl _), hneg⟩⟩
  · have hb := hr (by omega)
    obtain ⟨r2, ⟨K00, h00⟩, hr2⟩ := szIntSS_ev b r (by omega) hl' (fun x hx => (hw' x hx).1)
    by_cases hneg2 : r2 < 0
    · exact ⟨K0 + K00, .inr (.inl ⟨r, r2, h0 _ (by omega), h00 _ (by omega), hneg, hneg2⟩)⟩
    · have hb2 := hr2 (by omega)
      have hl2 : a.length ≤ 1048576 := by omega
      have hx2 : ∀ x ∈ a, x.length ≤ 1048576 := fun x hx => by have := hb.2.2 x hx; omega
      have hl3 : b.length ≤ 1048576 := by omega
      have hx3 : ∀ x ∈ b, x.length ≤ 1048576 := fun x hx => by have := hb2.2.2 x hx; omega
      obtain ⟨K1, h1⟩ := toIntSS_ev a hl2 hx2
      obtain ⟨K2, h2⟩ := toIntSS_ev b hl3 hx3
      obtain ⟨K3, h3⟩ := eqIntSS_ev a hl2 hx2
      obtain ⟨K4, h4⟩ := eqIntSS_ev b hl3 hx3
      obtain ⟨g, x, ⟨K5, h5⟩, ⟨K6, h6⟩, hg7, _⟩ := stable_both a b hl2 hx2 hl3 hx3
      obtain ⟨m, y, ⟨K7, h7⟩, h8, h9⟩ := markIntSS_ev a hl2 hx2 1 (by omega) (by omega)
      obtain ⟨m2, y2, ⟨K8, h10⟩, h11, h12⟩ := markIntSS_ev b hl3 hx3 m (by omega) (by omega)
      obtain ⟨K9, h13⟩ := eqIntS_ev g (by omega)
      obtain ⟨K10, h14⟩ := markIntS_ev g (by omega) 1 (by omega)
      obtain ⟨K11, h15⟩ := heldIntS_ev g.length (by omega) 1 (by omega)
      refine ⟨K0 + K00 + K1 + K2 + K3 + K4 + K5 + K6 + K7 + K8 + K9 + K10 + K11, .inr (.inr ⟨g, x, r, r2, m, y, m2, y2, 1 + (g.length : Int), ramp 1 g.length, ?_⟩)⟩
      exact ⟨h0 _ (by omega), h00 _ (by omega), h1 _ (by omega), h2 _ (by omega), h5 _ (by omega), h6 _ (by omega), h13 _ (by omega), h3 _ (by omega), h4 _ (by omega), h7 _ (by omega), h10 _ (by omega), h14 _ (by omega), h15 _ (by omega), hneg, hneg2, by omega, by omega⟩

end Go.Proofs.Ytjipboafhakjfaa.Pure
