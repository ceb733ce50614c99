/- THE PURE SIDE OF FnExactBlockingPairs: the printed functions of the reference and of the program give the same results. Plain Lean: no memory and no Go. -/
import Derived.Test.YtjipboafhakjfaaMFnExactBlockingPairs
import Derived.OpenShut
namespace Go.Proofs.Ytjipboafhakjfaa.Pure
open Go.RowKit Go.Proofs.Ytjipboafhakjfaa.PFnExactBlockingPairs Go.Proofs.Ytjipboafhakjfaa.MFnExactBlockingPairs Go.Proofs.YtjipboafhakjfaaW.PrintWords Go.Proofs.YtjipboafhakjfaaW.PrintLast Go.Proofs.YtjipboafhakjfaaW.PrintMore
set_option linter.unusedVariables false
set_option linter.unusedSimpArgs false

theorem w64 {x : Int} (h1 : -9223372036854775808 ≤ x) (h2 : x ≤ 9223372036854775807) : wrap64 x = x := by unfold wrap64; omega
theorem w64s {i : Nat} (h : i ≤ 9000000000000000000) : wrap64 ((i : Int) + 1) = ((i + 1 : Nat) : Int) := by rw [w64 (by omega) (by omega)]; omega
theorem rd_nat (l : List Int) (i : Nat) (h : i < l.length) : rd l (i : Int) = l[i] := by simp [rd, List.getD_eq_getElem?_getD, h]
theorem wf64 {x : Int} (h : (Lit.int .i64 x).wf = true) : -9223372036854775808 ≤ x ∧ x ≤ 9223372036854775807 := by
  have := bounds_i64 h
  omega
def inr (lo hi x : Int) : Bool := decide (lo ≤ x) && decide (x ≤ hi)
theorem inr_iff (lo hi x : Int) : inr lo hi x = true ↔ lo ≤ x ∧ x ≤ hi := by simp [inr]
theorem inr_false (lo hi x : Int) : inr lo hi x = false ↔ ¬ (lo ≤ x ∧ x ≤ hi) := by rw [← inr_iff, Bool.not_eq_true]
theorem mx_of_lt {a b : Int} (h : a < b) : mx a b = b := if_pos h
theorem mx_of_ge {a b : Int} (h : b ≤ a) : mx a b = a := if_neg (by omega)
theorem mx_spec (a b : Int) : a ≤ mx a b ∧ b ≤ mx a b ∧ (mx a b = a ∨ mx a b = b) := by unfold mx; split <;> omega
theorem l1In_eq (a b c : Int) : spec_l1In.f a b c = some (inr b c a) := by
  unfold spec_l1In.f inr
  by_cases h : a ≥ b
  · rw [if_pos h]; simp [show b ≤ a from h]
  · rw [if_neg h]; simp [show ¬ b ≤ a from h]
theorem l1All_l0 (lo hi : Int) (l : List Int) (hl : l.length ≤ 9000000000000000000) : ∀ (d k i : Nat), i + d = l.length → d < k → spec_l1All.l0 k lo hi l (l.length : Int) (i : Int) = some ((l.drop i).all (inr lo hi)) := by
  intro d
  induction d with
  | zero =>
    intro k i hi' hk
    obtain ⟨k, rfl⟩ : ∃ m, k = m + 1 := ⟨k - 1, by omega⟩
    simp only [spec_l1All.l0]
    rw [if_neg (by omega), List.drop_of_length_le (by omega)]; rfl
  | succ d ih =>
    intro k i hi' hk
    obtain ⟨k, rfl⟩ : ∃ m, k = m + 1 := ⟨k - 1, by omega⟩
    have hlt : i < l.length := by omega
    simp only [spec_l1All.l0]
    rw [if_pos (by omega), if_pos (by omega), if_pos (by omega), l1In_eq, List.drop_eq_getElem_cons hlt, List.all_cons, rd_nat l i hlt, w64s (by omega), ih k (i + 1) (by omega) (by omega)]
    simp only [Option.bind_some]
    by_cases h : inr lo hi l[i] = true
    · rw [if_pos h, h, Bool.true_and]
    · rw [if_neg h, Bool.eq_false_iff.mpr h, Bool.false_and]
theorem l1All_eq (lo hi : Int) (l : List Int) (hl : l.length ≤ 9000000000000000000) (k : Nat) (hk : l.length < k) : spec_l1All.f k l lo hi = some (l.all (inr lo hi)) := by
  unfold spec_l1All.f
  exact l1All_l0 lo hi l hl l.length k 0 (by omega) hk
theorem eqIntS_l0 (l : List Int) (hl : l.length ≤ 9000000000000000000) : ∀ (d k i : Nat), i + d = l.length → d < k → laws_eqIntS.l0 k l l (i : Int) = some true := by
  intro d
  induction d with
  | zero =>
    intro k i hi' hk
    obtain ⟨k, rfl⟩ : ∃ m, k = m + 1 := ⟨k - 1, by omega⟩
    simp only [laws_eqIntS.l0]
    rw [if_neg (by omega)]
  | succ d ih =>
    intro k i hi' hk
    obtain ⟨k, rfl⟩ : ∃ m, k = m + 1 := ⟨k - 1, by omega⟩
    simp only [laws_eqIntS.l0]
    rw [if_pos (by omega), if_pos (by omega), if_pos (by omega), if_pos trivial, w64s (by omega)]
    exact ih k (i + 1) (by omega) (by omega)
theorem eqIntS_self (l : List Int) (hl : l.length ≤ 9000000000000000000) (k : Nat) (hk : l.length < k) : laws_eqIntS.f k l l = some true := by
  unfold laws_eqIntS.f
  rw [if_pos rfl]
  exact eqIntS_l0 l hl l.length k 0 (by omega) hk
/-- What 'mark' writes: numbers in their order. -/
def ramp (a : Int) (n : Nat) : List Int := (List.range n).map fun (i : Nat) => a + (i : Int)
theorem ramp_length (a : Int) (n : Nat) : (ramp a n).length = n := by simp [ramp]
theorem ramp_succ (a : Int) (n : Nat) : ramp a (n + 1) = ramp a n ++ [a + (n : Int)] := by simp [ramp, List.range_succ]
theorem ramp_at (a : Int) (n i : Nat) (h : i < n) : rd (ramp a n) (i : Int) = a + (i : Int) := by
  rw [rd_nat _ _ (by rw [ramp_length]; exact h)]
  simp [ramp]
theorem markIntS_l0 (a : Int) (ha : 0 ≤ a ∧ a ≤ 1000000000000000000) (l : List Int) (hl : l.length ≤ 1000000000000000000) : ∀ (d k i : Nat), i + d = l.length → d < k → laws_markIntS.l0 k (ramp a i ++ l.drop i) (a + (i : Int)) (i : Int) = some (a + (l.length : Int), ramp a l.length) := by
  intro d
  induction d with
  | zero =>
    intro k i hi' hk
    obtain ⟨k, rfl⟩ : ∃ m, k = m + 1 := ⟨k - 1, by omega⟩
    obtain rfl : i = l.length := by omega
    simp only [laws_markIntS.l0]
    rw [if_neg (by simp [ramp_length]), List.drop_of_length_le (Nat.le_refl _), List.append_nil]
  | succ d ih =>
    intro k i hi' hk
    obtain ⟨k, rfl⟩ : ∃ m, k = m + 1 := ⟨k - 1, by omega⟩
    have hlt : i < l.length := by omega
    simp only [laws_markIntS.l0]
    rw [if_pos (by simp [ramp_length]; omega), if_pos (by omega), Int.toNat_natCast, List.drop_eq_getElem_cons hlt]
    rw [List.set_append_right _ _ (by rw [ramp_length]; exact Nat.le_refl _), ramp_length, Nat.sub_self, List.set_cons_zero]
    rw [w64s (by omega), w64 (by omega) (by omega)]
    have h := ih k (i + 1) (by omega) (by omega)
    rw [ramp_succ, List.append_assoc, List.singleton_append, show a + ((i + 1 : Nat) : Int) = a + (i : Int) + 1 from by omega] at h
    exact h
theorem markIntS_eq (a : Int) (ha : 0 ≤ a ∧ a ≤ 1000000000000000000) (l : List Int) (hl : l.length ≤ 1000000000000000000) (k : Nat) (hk : l.length < k) : laws_markIntS.f k l a = some (a + (l.length : Int), ramp a l.length) := by
  unfold laws_markIntS.f
  have h := markIntS_l0 a ha l hl l.length k 0 (by omega) hk
  simpa [ramp] using h
theorem heldIntS_l0 (a : Int) (ha : 0 ≤ a ∧ a ≤ 1000000000000000000) (n : Nat) (hl : n ≤ 1000000000000000000) : ∀ (d k i : Nat), i + d = n → d < k → laws_heldIntS.l0 k (ramp a n) (a + (i : Int)) (i : Int) = some (a + (n : Int)) := by
  intro d
  induction d with
  | zero =>
    intro k i hi' hk
    obtain ⟨k, rfl⟩ : ∃ m, k = m + 1 := ⟨k - 1, by omega⟩
    obtain rfl : i = n := by omega
    simp only [laws_heldIntS.l0]
    rw [if_neg (by rw [ramp_length]; omega)]
  | succ d ih =>
    intro k i hi' hk
    obtain ⟨k, rfl⟩ : ∃ m, k = m + 1 := ⟨k - 1, by omega⟩
    simp only [laws_heldIntS.l0]
    rw [if_pos (by rw [ramp_length]; omega), if_pos (by omega), ramp_at a n i (by omega), if_pos rfl, w64s (by omega), w64 (by omega) (by omega)]
    have h := ih k (i + 1) (by omega) (by omega)
    rw [show a + ((i + 1 : Nat) : Int) = a + (i : Int) + 1 from by omega] at h
    exact h
theorem heldIntS_eq (a : Int) (ha : 0 ≤ a ∧ a ≤ 1000000000000000000) (n : Nat) (hl : n ≤ 1000000000000000000) (k : Nat) (hk : n < k) : laws_heldIntS.f k (ramp a n) a = some (a + (n : Int)) := by
  unfold laws_heldIntS.f
  have h := heldIntS_l0 a ha n hl n k 0 (by omega) hk
  simpa using h

theorem ev_loop {β : Type} {F : Nat → Nat → Option β} {n : Nat} {res : Nat → β} (last : ∃ K, ∀ k, K ≤ k → F k n = some (res n)) (step : ∀ i, i < n → ∀ K, (∀ k, K ≤ k → F k (i + 1) = some (res (i + 1))) → ∃ K, ∀ k, K ≤ k → F k i = some (res i)) : ∀ i, i ≤ n → ∃ K, ∀ k, K ≤ k → F k i = some (res i) := by
  have key : ∀ d i, i + d = n → ∃ K, ∀ k, K ≤ k → F k i = some (res i) := by
    intro d
    induction d with
    | zero => intro i h; obtain rfl : i = n := by omega
              exact last
    | succ d ih =>
      intro i h
      obtain ⟨K, hK⟩ := ih (i + 1) (by omega)
      exact step i (by omega) K hK
  exact fun i h => key (n - i) i (by omega)
/-- One round more. -/
theorem ev_suc {β : Type} {g : Nat → Option β} {r : β} (K : Nat) (h : ∀ k, K ≤ k → g (k + 1) = some r) : ∃ K, ∀ k, K ≤ k → g k = some r :=
  ⟨K + 1, fun k hk => by obtain ⟨k, rfl⟩ : ∃ m, k = m + 1 := ⟨k - 1, by omega⟩; exact h k (by omega)⟩
theorem fill_step {α : Type} (l : List α) (z : α) (i : Nat) (h : i < l.length) : (l.take i ++ List.replicate (l.length - i) z).set i l[i] = l.take (i + 1) ++ List.replicate (l.length - (i + 1)) z := by
  have e : l.length - i = (l.length - (i + 1)) + 1 := by omega
  rw [List.set_append_right _ _ (by rw [List.length_take]; omega), List.length_take, Nat.min_eq_left (by omega), Nat.sub_self, e, List.replicate_succ, List.set_cons_zero, List.take_succ_eq_append_getElem h, List.append_assoc, List.singleton_append]
theorem fill_length {α : Type} (l : List α) (z : α) (i : Nat) (h : i ≤ l.length) : (l.take i ++ List.replicate (l.length - i) z).length = l.length := by
  rw [List.length_append, List.length_take, List.length_replicate]; omega
theorem fill_last {α : Type} (l : List α) (z : α) : l.take l.length ++ List.replicate (l.length - l.length) z = l := by simp
/-- What 'sz' leaves: where it isn't below 0, the row is no longer than that. -/
theorem szIntS_ev (l : List Int) (a : Int) (ha : 0 ≤ a ∧ a ≤ 1048576) (hl : l.length ≤ maxLen) : ∃ r, laws_szIntS.f l a = some r ∧ (0 ≤ r → r = a - l.length) ∧ (r < 0 → a < l.length) := by
  simp only [maxLen] at hl
  unfold laws_szIntS.f
  rw [w64 (by omega) (by omega)]
  by_cases h : a - (l.length : Int) < 0
  · exact ⟨-1, by rw [if_pos h], fun h2 => by omega, fun _ => by omega⟩
  · exact ⟨a - (l.length : Int), by rw [if_neg h], fun _ => rfl, fun h2 => by omega⟩
theorem rdLL_nat (l : List (List Int)) (i : Nat) (h : i < l.length) : rd_L1 l (i : Int) = l[i] := by simp [rd_L1, List.getD_eq_getElem?_getD, h]
theorem szIntSS_ev (l : List (List Int)) (a : Int) (ha : 0 ≤ a ∧ a ≤ 1048576) (hl : l.length ≤ maxLen) (hx : ∀ x ∈ l, x.length ≤ maxLen) : ∃ r, (∃ K, ∀ k, K ≤ k → laws_szIntSS.f k l a = some r) ∧ (0 ≤ r → r ≤ a ∧ (l.length : Int) ≤ a ∧ ∀ x ∈ l, (x.length : Int) ≤ a) := by
  simp only [maxLen] at hl
  by_cases h : a - (l.length : Int) < 0
  · refine ⟨-1, ⟨0, fun k _ => ?_⟩, fun h2 => by omega⟩
    unfold laws_szIntSS.f
    rw [w64 (by omega) (by omega), if_pos h]
  · have key : ∀ d i, i + d = l.length → ∀ b : Int, 0 ≤ b → b ≤ a → ∃ r, (∃ K, ∀ k, K ≤ k → laws_szIntSS.l0 k l b (i : Int) = some r) ∧ (0 ≤ r → r ≤ b ∧ ∀ x ∈ l.drop i, (x.length : Int) ≤ a) := by
      intro d
      induction d with
      | zero =>
        intro i hi b hb hba
        refine ⟨b, ev_suc 0 fun k _ => ?_, fun _ => ⟨by omega, fun x hx => ?_⟩⟩
        · simp only [laws_szIntSS.l0]
          rw [if_neg (by omega)]
        · rw [List.drop_of_length_le (by omega)] at hx
          simp at hx
      | succ d ih =>
        intro i hi b hb hba
        have hlt : i < l.length := by omega
        obtain ⟨r, h1, h2, h3⟩ := szIntS_ev l[i] b (by omega) (hx _ (List.getElem_mem hlt))
        by_cases h4 : r < 0
        · refine ⟨-1, ev_suc 0 fun k _ => ?_, fun h5 => by omega⟩
          simp only [laws_szIntSS.l0]
          rw [if_pos (by omega), if_pos (by omega), rdLL_nat l i hlt, h1]
          simp only [Option.bind_some]
          rw [if_pos h4]
        · have h5 := h2 (by omega)
          obtain ⟨r2, ⟨K, h6⟩, h7⟩ := ih (i + 1) (by omega) r (by omega) (by omega)
          refine ⟨r2, ev_suc K fun k hk => ?_, fun h8 => ⟨by have := (h7 h8).1; omega, fun x hx => ?_⟩⟩
          · simp only [laws_szIntSS.l0]
            rw [if_pos (by omega), if_pos (by omega), rdLL_nat l i hlt, h1]
            simp only [Option.bind_some]
            rw [if_neg h4, w64s (by omega)]
            exact h6 k hk
          · rw [List.drop_eq_getElem_cons hlt] at hx
            rcases List.mem_cons.1 hx with rfl | hx
            · omega
            · exact (h7 h8).2 x hx
    obtain ⟨r, ⟨K, h1⟩, h2⟩ := key l.length 0 (by omega) (a - l.length) (by omega) (by omega)
    refine ⟨r, ⟨K, fun k hk => ?_⟩, fun h3 => ⟨by have := (h2 h3).1; omega, by omega, by simpa using (h2 h3).2⟩⟩
    unfold laws_szIntSS.f
    rw [w64 (by omega) (by omega), if_neg h]
    exact h1 k hk
theorem toIntS_ev (l : List Int) (hl : l.length ≤ 1048576) : ∃ K, ∀ k, K ≤ k → laws_toIntS.f k l = some l := by
  have h := ev_loop (F := fun k i => laws_toIntS.l0 k l (l.take i ++ List.replicate (l.length - i) 0) (i : Int)) (n := l.length) (res := fun _ => l)
    (ev_suc 0 fun k _ => by simp only [laws_toIntS.l0]; rw [if_neg (by omega), fill_last])
    (fun i hi K hK => ev_suc K fun k hk => by
      simp only [laws_toIntS.l0]
      rw [if_pos (by omega), if_pos (by omega), if_pos (by rw [fill_length l 0 i (by omega)]; omega), Int.toNat_natCast, rd_nat l i hi, fill_step l 0 i hi, w64s (by omega)]
      exact hK k hk) 0 (Nat.zero_le _)
  obtain ⟨K, h⟩ := h
  refine ⟨K, fun k hk => ?_⟩
  unfold laws_toIntS.f
  rw [if_pos (by omega), if_pos (by omega), Int.toNat_natCast]
  simpa using h k hk
theorem toIntSS_ev (l : List (List Int)) (hl : l.length ≤ 1048576) (hx : ∀ x ∈ l, x.length ≤ 1048576) : ∃ K, ∀ k, K ≤ k → laws_toIntSS.f k l = some l := by
  have h := ev_loop (F := fun k i => laws_toIntSS.l0 k l (l.take i ++ List.replicate (l.length - i) []) (i : Int)) (n := l.length) (res := fun _ => l)
    (ev_suc 0 fun k _ => by simp only [laws_toIntSS.l0]; rw [if_neg (by omega), fill_last])
    (fun i hi K hK => by
      obtain ⟨K2, h2⟩ := toIntS_ev l[i] (hx _ (List.getElem_mem hi))
      exact ev_suc (max K K2) fun k hk => by
        simp only [laws_toIntSS.l0]
        rw [if_pos (by omega), if_pos (by omega), rdLL_nat l i hi, h2 k (by omega)]
        simp only [Option.bind_some]
        rw [if_pos (by rw [fill_length l [] i (by omega)]; omega), Int.toNat_natCast, fill_step l [] i hi, w64s (by omega)]
        exact hK k (by omega)) 0 (Nat.zero_le _)
  obtain ⟨K, h⟩ := h
  refine ⟨K, fun k hk => ?_⟩
  unfold laws_toIntSS.f
  rw [if_pos (by omega), if_pos (by omega), Int.toNat_natCast]
  simpa using h k hk
theorem eqIntS_ev (l : List Int) (hl : l.length ≤ 1048576) : ∃ K, ∀ k, K ≤ k → laws_eqIntS.f k l l = some true :=
  ⟨l.length + 1, fun k hk => eqIntS_self l (by omega) k (by omega)⟩
theorem eqIntSS_ev (l : List (List Int)) (hl : l.length ≤ 1048576) (hx : ∀ x ∈ l, x.length ≤ 1048576) : ∃ K, ∀ k, K ≤ k → laws_eqIntSS.f k l l = some true := by
  have h := ev_loop (F := fun k i => laws_eqIntSS.l0 k l l (i : Int)) (n := l.length) (res := fun _ => true)
    (ev_suc 0 fun k _ => by simp only [laws_eqIntSS.l0]; rw [if_neg (by omega)])
    (fun i hi K hK => by
      obtain ⟨K2, h2⟩ := eqIntS_ev l[i] (hx _ (List.getElem_mem hi))
      exact ev_suc (max K K2) fun k hk => by
        simp only [laws_eqIntSS.l0]
        rw [if_pos (by omega), if_pos (by omega), if_pos (by omega), rdLL_nat l i hi, h2 k (by omega)]
        simp only [Option.bind_some]
        rw [if_pos trivial, w64s (by omega)]
        exact hK k (by omega)) 0 (Nat.zero_le _)
  obtain ⟨K, h⟩ := h
  refine ⟨K, fun k hk => ?_⟩
  unfold laws_eqIntSS.f
  rw [if_pos rfl]
  exact h k hk
theorem markIntS_ev (l : List Int) (hl : l.length ≤ 1048576) (a : Int) (ha : 0 ≤ a ∧ a ≤ 1000000000000000000) : ∃ K, ∀ k, K ≤ k → laws_markIntS.f k l a = some (a + (l.length : Int), ramp a l.length) :=
  ⟨l.length + 1, fun k hk => markIntS_eq a ha l (by omega) k (by omega)⟩
theorem heldIntS_ev (n : Nat) (hl : n ≤ 1048576) (a : Int) (ha : 0 ≤ a ∧ a ≤ 1000000000000000000) : ∃ K, ∀ k, K ≤ k → laws_heldIntS.f k (ramp a n) a = some (a + (n : Int)) :=
  ⟨n + 1, fun k hk => heldIntS_eq a ha n (by omega) k (by omega)⟩
theorem l1All_ev (lo hi : Int) (l : List Int) (hl : l.length ≤ 1048576) : ∃ K, ∀ k, K ≤ k → spec_l1All.f k l lo hi = some (l.all (inr lo hi)) :=
  ⟨l.length + 1, fun k hk => l1All_eq lo hi l (by omega) k (by omega)⟩

/-- A number put into an increasing list, unless it is there. -/
def put : List Int → Int → List Int
  | [], n => [n]
  | x :: r, n => if x < n then x :: put r n else if x = n then x :: r else n :: x :: r
theorem put_mem (n z : Int) : ∀ l : List Int, z ∈ put l n ↔ z = n ∨ z ∈ l := by
  intro l
  induction l with
  | nil => simp [put]
  | cons x r ih =>
    simp only [put]
    split
    · rw [List.mem_cons, ih, List.mem_cons]
      constructor
      · rintro (h | h | h) <;> simp [h]
      · rintro (h | h | h) <;> simp [h]
    · split
      · rename_i h
        rw [List.mem_cons]
        constructor
        · intro h2; exact .inr h2
        · rintro (h2 | h2)
          · exact .inl (h2.trans h.symm)
          · exact h2
      · simp
theorem put_sorted (n : Int) : ∀ l : List Int, l.Pairwise (· < ·) → (put l n).Pairwise (· < ·) := by
  intro l
  induction l with
  | nil => intro _; simp [put]
  | cons x r ih =>
    intro h
    obtain ⟨h1, h2⟩ := List.pairwise_cons.1 h
    simp only [put]
    split
    · rename_i hx
      refine List.pairwise_cons.2 ⟨fun z hz => ?_, ih h2⟩
      rcases (put_mem n z r).1 hz with rfl | hz
      · exact hx
      · exact h1 z hz
    · split
      · exact h
      · refine List.pairwise_cons.2 ⟨fun z hz => ?_, h⟩
        rcases List.mem_cons.1 hz with rfl | hz
        · omega
        · have := h1 z hz
          omega
theorem put_length (n : Int) : ∀ l : List Int, l.Pairwise (· < ·) → (put l n).length = if n ∈ l then l.length else l.length + 1 := by
  intro l
  induction l with
  | nil => intro _; simp [put]
  | cons x r ih =>
    intro h
    obtain ⟨h1, h2⟩ := List.pairwise_cons.1 h
    simp only [put]
    split
    · rename_i hx
      rw [List.length_cons, ih h2, List.length_cons]
      have e : n ∈ x :: r ↔ n ∈ r := by
        rw [List.mem_cons]
        constructor
        · rintro (h | h)
          · omega
          · exact h
        · exact .inr
      by_cases hn : n ∈ r
      · rw [if_pos hn, if_pos (e.2 hn)]
      · rw [if_neg hn, if_neg (fun h => hn (e.1 h))]
    · split
      · rename_i hx
        rw [if_pos (by rw [← hx]; exact List.mem_cons_self)]
      · rw [if_neg (fun hn => by
          rcases List.mem_cons.1 hn with hn | hn
          · omega
          · have := h1 n hn
            omega)]
        rfl
theorem put_len_le (n : Int) (l : List Int) : (put l n).length ≤ l.length + 1 := by
  induction l with
  | nil => simp [put]
  | cons x r ih => simp only [put]; split <;> (try split) <;> simp <;> omega
theorem l1Put_ev (l : List Int) (hl : l.length ≤ 2097152) (n : Int) : ∃ K, ∀ k, K ≤ k → spec_l1Put.f k l n = some (put l n) := by
  have h := ev_loop (F := fun k i => spec_l1Put.l0 k l n (i : Int)) (n := l.length) (res := fun i => l.take i ++ put (l.drop i) n)
    (ev_suc 0 fun k _ => by
      simp only [spec_l1Put.l0]
      rw [if_neg (by omega)]
      simp only [Option.bind_some]
      rw [if_pos (by omega), if_pos (by omega)]
      simp only [Option.bind_some, Int.toNat_natCast, List.nil_append, List.take_length, List.drop_length, List.length_nil, Nat.zero_add]
      rw [if_pos (by omega)]
      try simp only [Option.bind_some]
      rw [if_pos (by omega)]
      try simp only [Option.bind_some, List.length_append, List.length_singleton, List.length_nil]
      rw [if_pos (by omega)]
      simp [put])
    (fun i hi K hK => ev_suc K fun k hk => by
      simp only [spec_l1Put.l0]
      rw [if_pos (by omega), if_pos (by omega), rd_nat l i hi, List.drop_eq_getElem_cons hi]
      simp only [put]
      by_cases h1 : l[i] < n
      · rw [if_pos h1, if_pos h1, w64s (by omega), hK k hk, List.take_succ_eq_append_getElem hi, List.append_assoc, List.singleton_append]
      · rw [if_neg h1, if_neg h1]
        by_cases h2 : l[i] = n
        · rw [if_pos h2, if_pos h2, ← List.drop_eq_getElem_cons hi, List.take_append_drop]
        · rw [if_neg h2, if_neg h2]
          simp only [Option.bind_some]
          rw [if_pos (by omega)]
          simp only [Option.bind_some, Int.toNat_natCast, List.nil_append, List.length_nil, Nat.zero_add]
          rw [if_pos (by rw [List.length_take]; omega)]
          try simp only [Option.bind_some]
          rw [if_pos (by rw [List.length_take]; omega)]
          try simp only [Option.bind_some]
          rw [if_pos (by simp only [List.length_append, List.length_take, List.length_drop, List.length_singleton]; omega), ← List.drop_eq_getElem_cons hi]
          simp) 0 (Nat.zero_le _)
  simpa [spec_l1Put.f] using h
/-- A list that has all numbers from 0 to n - 1. -/
def isMatchP (l : List Int) (n : Int) : Prop := (l.length : Int) = n ∧ (∀ x ∈ l, 0 ≤ x ∧ x < n) ∧ l.Nodup
instance (l : List Int) (n : Int) : Decidable (isMatchP l n) := by unfold isMatchP; exact inferInstance
def metOf (l : List Int) : List Int := l.foldl put []
theorem met_snoc (l : List Int) (x : Int) : metOf (l ++ [x]) = put (metOf l) x := by simp [metOf, List.foldl_append]
theorem met_facts (l : List Int) : ∀ i, i ≤ l.length → (metOf (l.take i)).Pairwise (· < ·) ∧ (∀ z, z ∈ metOf (l.take i) ↔ z ∈ l.take i) ∧ (metOf (l.take i)).length ≤ i ∧ ((metOf (l.take i)).length = i ↔ (l.take i).Nodup) := by
  intro i
  induction i with
  | zero => intro _; simp [metOf]
  | succ i ih =>
    intro hi
    have hlt : i < l.length := by omega
    obtain ⟨h1, h2, h3, h4⟩ := ih (by omega)
    rw [List.take_succ_eq_append_getElem hlt, met_snoc]
    refine ⟨put_sorted _ _ h1, fun z => ?_, ?_, ?_⟩
    · rw [put_mem, h2 z, List.mem_append, List.mem_singleton]
      exact Or.comm
    · rw [put_length _ _ h1]
      split <;> omega
    · rw [put_length _ _ h1, List.nodup_append]
      by_cases hm : l[i] ∈ metOf (l.take i)
      · rw [if_pos hm]
        constructor
        · intro h; omega
        · rintro ⟨_, _, h⟩
          exact absurd rfl (h _ ((h2 _).1 hm) _ (List.mem_singleton.2 rfl))
      · rw [if_neg hm]
        constructor
        · intro h
          refine ⟨h4.1 (by omega), by simp, fun a ha b hb => ?_⟩
          rw [List.mem_singleton.1 hb]
          rintro rfl
          exact hm ((h2 _).2 ha)
        · rintro ⟨h, _, _⟩
          have := h4.2 h
          omega
theorem maMatch_ev (l : List Int) (hl : l.length ≤ 1048576) (n : Int) (hn : 0 ≤ n ∧ n ≤ 1048576) : ∃ K, ∀ k, K ≤ k → spec_maMatch.f k l n = some (decide (isMatchP l n ∧ 1 ≤ n ∧ n ≤ 7)) := by
  obtain ⟨f1, f2, f3, f4⟩ := met_facts l l.length (Nat.le_refl _)
  rw [List.take_length] at f1 f2 f3 f4
  obtain ⟨Ka, ha⟩ := l1All_ev 0 (n - 1) l hl
  have h := ev_loop (F := fun k i => spec_maMatch.l0 k l n (metOf (l.take i)) l (l.length : Int) (i : Int)) (n := l.length) (res := fun _ => decide (isMatchP l n ∧ 1 ≤ n ∧ n ≤ 7))
    (ev_suc Ka fun k hk => by
      simp only [spec_maMatch.l0]
      rw [if_neg (by omega), List.take_length, l1In_eq, w64 (by omega) (by omega), ha k hk]
      simp only [Option.bind_some]
      by_cases h1 : (l.length : Int) = n
      · rw [if_pos h1]
        by_cases h2 : ((metOf l).length : Int) = n
        · rw [if_pos h2]
          have hnd : l.Nodup := f4.1 (by omega)
          by_cases h3 : inr 1 7 n = true
          · rw [if_pos h3]
            have h3' := (inr_iff _ _ _).1 h3
            congr 1
            rw [Bool.eq_iff_iff, List.all_eq_true, decide_eq_true_eq]
            simp only [inr_iff]
            constructor
            · intro h4
              exact ⟨⟨h1, fun x hx => by have := h4 x hx; omega, hnd⟩, h3'⟩
            · rintro ⟨⟨_, h4, _⟩, _⟩ x hx
              have := h4 x hx
              omega
          · rw [if_neg h3, decide_eq_false (fun h4 => h3 ((inr_iff _ _ _).2 h4.2))]
        · rw [if_neg h2, decide_eq_false (fun h4 => h2 (by have := f4.2 h4.1.2.2; omega))]
      · rw [if_neg h1, decide_eq_false (fun h4 => h1 h4.1.1)])
    (fun i hi K hK => by
      obtain ⟨_, _, f5, _⟩ := met_facts l i (by omega)
      obtain ⟨K2, h2⟩ := l1Put_ev (metOf (l.take i)) (by omega) l[i]
      exact ev_suc (max K K2) fun k hk => by
        simp only [spec_maMatch.l0]
        rw [if_pos (by omega), if_pos (by omega), if_pos (by omega), rd_nat l i hi, h2 k (by omega)]
        simp only [Option.bind_some]
        rw [w64s (by omega), ← met_snoc, ← List.take_succ_eq_append_getElem hi]
        exact hK k (by omega)) 0 (Nat.zero_le _)
  simpa [spec_maMatch.f, metOf] using h
def seenOf (l : List Int) (n : Nat) : List Bool := (List.range n).map fun (j : Nat) => decide ((j : Int) ∈ l)
theorem seen_length (l : List Int) (n : Nat) : (seenOf l n).length = n := by simp [seenOf]
theorem seen_at (l : List Int) (n : Nat) (x : Int) (h0 : 0 ≤ x) (h1 : x < n) : rdOf false (seenOf l n) x = decide (x ∈ l) := by
  have hx : x.toNat < n := by omega
  simp only [rdOf, seenOf, List.getD_eq_getElem?_getD, List.getElem?_map]
  rw [List.getElem?_range hx]
  simp only [Option.map_some, Option.getD_some]
  rw [Int.toNat_of_nonneg h0]
theorem seen_set (l : List Int) (n : Nat) (x : Int) (h0 : 0 ≤ x) (h1 : x < n) : (seenOf l n).set x.toNat true = seenOf (l ++ [x]) n := by
  apply List.ext_getElem
  · simp [seenOf]
  · intro j hj hj2
    simp only [List.length_set, seen_length] at hj
    rw [List.getElem_set]
    simp only [seenOf, List.getElem_map, List.getElem_range, List.mem_append, List.mem_singleton]
    by_cases hx : x.toNat = j
    · rw [if_pos hx]
      have : (j : Int) = x := by omega
      simp [this]
    · rw [if_neg hx]
      have : ¬ (j : Int) = x := by omega
      simp [this]
theorem implIsMatch_ev (l : List Int) (hl : l.length ≤ 1048576) (n : Int) (hn : 0 ≤ n ∧ n ≤ 1048576) : ∃ K, ∀ k, K ≤ k → impl_isMatch.f k l n = some (decide (isMatchP l n)) := by
  obtain ⟨m, rfl⟩ := Int.eq_ofNat_of_zero_le hn.1
  by_cases hlen : (l.length : Int) = (m : Int)
  · have h := ev_loop (F := fun k i => impl_isMatch.l0 k (m : Int) (seenOf (l.take i) m) l (l.length : Int) (i : Int)) (n := l.length)
      (res := fun i => decide ((∀ x ∈ l.drop i, 0 ≤ x ∧ x < (m : Int)) ∧ (l.drop i).Nodup ∧ ∀ x ∈ l.drop i, x ∉ l.take i))
      (ev_suc 0 fun k _ => by
        simp only [impl_isMatch.l0]
        rw [if_neg (by omega), List.drop_length, decide_eq_true (by simp)])
      (fun i hi K hK => ev_suc K fun k hk => by
        simp only [impl_isMatch.l0]
        rw [if_pos (by omega), if_pos (by omega), if_pos (by omega), rd_nat l i hi, List.drop_eq_getElem_cons hi]
        by_cases h1 : l[i] < 0
        · rw [if_pos h1, decide_eq_false (fun h => by have := h.1 l[i] List.mem_cons_self; omega)]
        · rw [if_neg h1]
          by_cases h2 : l[i] ≥ (m : Int)
          · rw [if_pos h2, decide_eq_false (fun h => by have := h.1 l[i] List.mem_cons_self; omega)]
          · rw [if_neg h2, if_pos (by omega), if_pos (by rw [seen_length]; omega), seen_at _ _ _ (by omega) (by omega), seen_set _ _ _ (by omega) (by omega), w64s (by omega), ← List.take_succ_eq_append_getElem hi]
            by_cases h3 : l[i] ∈ l.take i
            · rw [if_pos (decide_eq_true h3), decide_eq_false (fun h => h.2.2 l[i] List.mem_cons_self h3)]
            · rw [if_neg (by simpa using h3), hK k hk]
              congr 1
              rw [decide_eq_decide, List.take_succ_eq_append_getElem hi]
              simp only [List.mem_cons, List.mem_append, List.mem_singleton, List.nodup_cons, List.not_mem_nil, or_false]
              constructor
              · rintro ⟨a1, a2, a3⟩
                refine ⟨?_, ⟨fun hm => (a3 _ hm) (.inr rfl), a2⟩, ?_⟩
                · rintro x (rfl | hx)
                  · omega
                  · exact a1 x hx
                · rintro x (rfl | hx)
                  · exact h3
                  · exact fun hm => a3 x hx (.inl hm)
              · rintro ⟨a1, ⟨a2, a3⟩, a4⟩
                refine ⟨fun x hx => a1 x (.inr hx), a3, fun x hx => ?_⟩
                rintro (hm | rfl)
                · exact a4 x (.inr hx) hm
                · exact a2 hx) 0 (Nat.zero_le _)
    obtain ⟨K, h⟩ := h
    refine ⟨K, fun k hk => ?_⟩
    have h2 := h k hk
    unfold impl_isMatch.f
    rw [if_pos hlen, if_pos (by omega), if_pos (by simp only [Int.toNat_natCast]; omega), Int.toNat_natCast]
    have e : seenOf (l.take 0) m = List.replicate m false := by
      apply List.ext_getElem <;> simp [seenOf]
    rw [e] at h2
    rw [show (0 : Int) = ((0 : Nat) : Int) from rfl, h2]
    congr 1
    rw [decide_eq_decide]
    simp [isMatchP, hlen]
  · refine ⟨0, fun k _ => ?_⟩
    unfold impl_isMatch.f
    rw [if_neg hlen, decide_eq_false (fun h => hlen h.1)]
/-- The trucks of the shovels, after the first trucks were looked at. -/
def swapTo (m : List Int) : Nat → List Int
  | 0 => List.replicate m.length 0
  | i + 1 => (swapTo m i).set (rd m (i : Int)).toNat (i : Int)
theorem swapTo_length (m : List Int) : ∀ i, (swapTo m i).length = m.length := by
  intro i
  induction i with
  | zero => simp [swapTo]
  | succ i ih => simp [swapTo, ih]
theorem swap_ev (m : List Int) (hl : m.length ≤ 1048576) (hp : isMatchP m (m.length : Int)) : (∃ K, ∀ k, K ≤ k → spec_maSwap.f k m = some (swapTo m m.length)) ∧ ∃ K, ∀ k, K ≤ k → impl_swapSides.f k m = some (swapTo m m.length) := by
  have hr : ∀ i, i < m.length → 0 ≤ rd m (i : Int) ∧ rd m (i : Int) < (m.length : Int) := fun i hi => by
    rw [rd_nat m i hi]
    exact hp.2.1 _ (List.getElem_mem hi)
  have h1 := ev_loop (F := fun k i => spec_maSwap.l0 k (swapTo m i) m (m.length : Int) (i : Int)) (n := m.length) (res := fun _ => swapTo m m.length)
    (ev_suc 0 fun k _ => by simp only [spec_maSwap.l0]; rw [if_neg (by omega)])
    (fun i hi K hK => ev_suc K fun k hk => by
      have h2 := hr i hi
      have h3 := swapTo_length m i
      simp only [spec_maSwap.l0]
      rw [if_pos (by omega), if_pos (by omega), if_pos (by omega), if_pos (by omega), if_pos (by omega), w64s (by omega)]
      exact hK k hk) 0 (Nat.zero_le _)
  have h2 := ev_loop (F := fun k i => impl_swapSides.l0 k (swapTo m i) m (m.length : Int) (i : Int)) (n := m.length) (res := fun _ => swapTo m m.length)
    (ev_suc 0 fun k _ => by simp only [impl_swapSides.l0]; rw [if_neg (by omega)])
    (fun i hi K hK => ev_suc K fun k hk => by
      have h2 := hr i hi
      have h3 := swapTo_length m i
      simp only [impl_swapSides.l0]
      rw [if_pos (by omega), if_pos (by omega), if_pos (by omega), if_pos (by omega), if_pos (by omega), w64s (by omega)]
      exact hK k hk) 0 (Nat.zero_le _)
  constructor
  · obtain ⟨K, h⟩ := h1
    refine ⟨K, fun k hk => ?_⟩
    unfold spec_maSwap.f
    rw [if_pos (by omega), if_pos (by omega), Int.toNat_natCast]
    exact h k hk
  · obtain ⟨K, h⟩ := h2
    refine ⟨K, fun k hk => ?_⟩
    unfold impl_swapSides.f
    rw [if_pos (by omega), if_pos (by omega), Int.toNat_natCast]
    exact h k hk
def prefsOk (l : List (List Int)) : Bool := (l.all fun x => decide (isMatchP x (l.length : Int))) && inr 1 7 (l.length : Int)
theorem prefsOk_iff (l : List (List Int)) : prefsOk l = true ↔ (∀ x ∈ l, isMatchP x (l.length : Int)) ∧ 1 ≤ l.length ∧ l.length ≤ 7 := by
  simp only [prefsOk, Bool.and_eq_true, List.all_eq_true, decide_eq_true_eq, inr_iff]
  constructor
  · rintro ⟨h1, h2, h3⟩
    exact ⟨h1, by omega, by omega⟩
  · rintro ⟨h1, h2, h3⟩
    exact ⟨h1, by omega, by omega⟩
theorem maPreferences_ev (l : List (List Int)) (hl : l.length ≤ 1048576) (hx : ∀ x ∈ l, x.length ≤ 1048576) : ∃ K, ∀ k, K ≤ k → spec_maPreferences.f k l = some (prefsOk l) := by
  have h := ev_loop (F := fun k i => spec_maPreferences.l0 k l l (l.length : Int) (i : Int)) (n := l.length) (res := fun i => ((l.drop i).all fun x => decide (isMatchP x (l.length : Int))) && inr 1 7 (l.length : Int))
    (ev_suc 0 fun k _ => by
      simp only [spec_maPreferences.l0]
      rw [if_neg (by omega), l1In_eq, List.drop_of_length_le (Nat.le_refl _)]
      rfl)
    (fun i hi K hK => by
      obtain ⟨K2, h2⟩ := maMatch_ev l[i] (hx _ (List.getElem_mem hi)) (l.length : Int) (by omega)
      exact ev_suc (max K K2) fun k hk => by
        simp only [spec_maPreferences.l0]
        rw [if_pos (by omega), if_pos (by omega), if_pos (by omega), rdLL_nat l i hi, h2 k (by omega), List.drop_eq_getElem_cons hi, List.all_cons]
        simp only [Option.bind_some]
        by_cases h3 : isMatchP l[i] (l.length : Int)
        · by_cases h4 : 1 ≤ (l.length : Int) ∧ (l.length : Int) ≤ 7
          · rw [if_pos (decide_eq_true ⟨h3, h4⟩), decide_eq_true h3, Bool.true_and, w64s (by omega)]
            exact hK k (by omega)
          · rw [if_neg (by simp only [decide_eq_true_eq]; exact fun h => h4 h.2), (inr_false _ _ _).2 h4, Bool.and_false]
        · rw [if_neg (by simp only [decide_eq_true_eq]; exact fun h => h3 h.1), decide_eq_false h3, Bool.false_and, Bool.false_and]) 0 (Nat.zero_le _)
  exact h
theorem implArePreferences_ev (l : List (List Int)) (hl : l.length ≤ 1048576) (hx : ∀ x ∈ l, x.length ≤ 1048576) : ∃ K, ∀ k, K ≤ k → impl_ArePreferences.f k l = some (prefsOk l) := by
  have h := ev_loop (F := fun k i => impl_ArePreferences.l0 k l l (l.length : Int) (i : Int)) (n := l.length) (res := fun i => (l.drop i).all fun x => decide (isMatchP x (l.length : Int)))
    (ev_suc 0 fun k _ => by
      simp only [impl_ArePreferences.l0]
      rw [if_neg (by omega), List.drop_of_length_le (Nat.le_refl _)]
      rfl)
    (fun i hi K hK => by
      obtain ⟨K2, h2⟩ := implIsMatch_ev l[i] (hx _ (List.getElem_mem hi)) (l.length : Int) (by omega)
      exact ev_suc (max K K2) fun k hk => by
        simp only [impl_ArePreferences.l0]
        rw [if_pos (by omega), if_pos (by omega), if_pos (by omega), rdLL_nat l i hi, h2 k (by omega), List.drop_eq_getElem_cons hi, List.all_cons]
        simp only [Option.bind_some]
        by_cases h3 : isMatchP l[i] (l.length : Int)
        · rw [if_pos (decide_eq_true h3), decide_eq_true h3, Bool.true_and, w64s (by omega)]
          exact hK k (by omega)
        · rw [if_neg (by simp only [decide_eq_true_eq]; exact h3), decide_eq_false h3, Bool.false_and]) 0 (Nat.zero_le _)
  obtain ⟨K, h⟩ := h
  refine ev_suc K fun k hk => ?_
  have hk2 := h k hk
  unfold impl_ArePreferences.f prefsOk
  by_cases h1 : (l.length : Int) < 1
  · rw [if_pos h1, (inr_false _ _ _).2 (by omega), Bool.and_false]
    simp only [impl_ArePreferences.j0]
    rw [if_pos trivial]
  · rw [if_neg h1]
    simp only [impl_ArePreferences.j0]
    by_cases h2 : (l.length : Int) > 7
    · rw [if_pos (by simpa using h2), (inr_false _ _ _).2 (by omega), Bool.and_false]
    · rw [if_neg (by simpa using h2), (inr_iff _ _ _).2 (by omega), Bool.and_true]
      exact hk2
theorem slIndex_ev (l : List Int) (hl : l.length ≤ 1048576) (a : Int) : ∃ r : Int, (∃ K, ∀ k, K ≤ k → slices_Index_int_int.f k l a = some r) ∧ (0 ≤ r ↔ a ∈ l) ∧ r < l.length := by
  have key : ∀ d i, i + d = l.length → ∃ r : Int, (∃ K, ∀ k, K ≤ k → slices_Index_int_int.l0 k l a (l.length : Int) (i : Int) = some r) ∧ (0 ≤ r ↔ a ∈ l.drop i) ∧ (r < l.length) := by
    intro d
    induction d with
    | zero =>
      intro i hi
      refine ⟨-1, ev_suc 0 fun k _ => ?_, ?_, by omega⟩
      · simp only [slices_Index_int_int.l0]
        rw [if_neg (by omega)]
      · rw [List.drop_of_length_le (by omega)]; simp
    | succ d ih =>
      intro i hi
      have hlt : i < l.length := by omega
      by_cases h1 : a = l[i]
      · refine ⟨(i : Int), ev_suc 0 fun k _ => ?_, ?_, by omega⟩
        · simp only [slices_Index_int_int.l0]
          rw [if_pos (by omega), if_pos (by omega), if_pos (by omega), rd_nat l i hlt, if_pos h1]
        · rw [List.drop_eq_getElem_cons hlt, ← h1]
          simp
      · obtain ⟨r, ⟨K, hK⟩, h2, h3⟩ := ih (i + 1) (by omega)
        refine ⟨r, ev_suc K fun k hk => ?_, ?_, h3⟩
        · simp only [slices_Index_int_int.l0]
          rw [if_pos (by omega), if_pos (by omega), if_pos (by omega), rd_nat l i hlt, if_neg h1, w64s (by omega)]
          exact hK k hk
        · rw [h2, List.drop_eq_getElem_cons hlt, List.mem_cons]
          simp [h1]
  obtain ⟨r, h1, h2, h3⟩ := key l.length 0 (by omega)
  exact ⟨r, h1, by simpa using h2, h3⟩
theorem markIntSS_ev (l : List (List Int)) (hl : l.length ≤ 1048576) (hx : ∀ x ∈ l, x.length ≤ 1048576) : ∀ a : Int, 0 ≤ a → a ≤ 1000000000000000 → ∃ (m : Int) (y : List (List Int)), (∃ K, ∀ k, K ≤ k → laws_markIntSS.f k l a = some (m, y)) ∧ 0 ≤ m ∧ m ≤ a + 1048576 * l.length := by
  intro a ha hab
  have key : ∀ d i, i + d = l.length → ∀ (x : List (List Int)) (b : Int), x.length = l.length → x.drop i = l.drop i → a ≤ b → b ≤ a + 1048576 * i → ∃ (m : Int) (y : List (List Int)), (∃ K, ∀ k, K ≤ k → laws_markIntSS.l0 k x b (i : Int) = some (m, y)) ∧ 0 ≤ m ∧ m ≤ a + 1048576 * l.length := by
    intro d
    induction d with
    | zero =>
      intro i hi x b hxl hd hb1 hb2
      refine ⟨b, x, ev_suc 0 fun k _ => ?_, by omega, by omega⟩
      simp only [laws_markIntSS.l0]
      rw [if_neg (by omega)]
    | succ d ih =>
      intro i hi x b hxl hd hb1 hb2
      have hlt : i < l.length := by omega
      have hltx : i < x.length := by omega
      have hd2 := hd
      rw [List.drop_eq_getElem_cons hltx, List.drop_eq_getElem_cons hlt] at hd2
      obtain ⟨he, hd3⟩ := List.cons.inj hd2
      have hxi : x[i].length ≤ 1048576 := by rw [he]; exact hx _ (List.getElem_mem hlt)
      obtain ⟨K1, h1⟩ := markIntS_ev x[i] hxi b (by omega)
      obtain ⟨m, y, ⟨K2, h2⟩, h3, h4⟩ := ih (i + 1) (by omega) (x.set i (ramp b x[i].length)) (b + (x[i].length : Int)) (by rw [List.length_set]; exact hxl) (by rw [List.drop_set_of_lt (by omega)]; exact hd3) (by omega) (by omega)
      refine ⟨m, y, ev_suc (max K1 K2) fun k hk => ?_, h3, h4⟩
      simp only [laws_markIntSS.l0]
      rw [if_pos (by omega), if_pos (by omega), rdLL_nat x i hltx, h1 k (by omega)]
      simp only [Option.bind_some, Int.toNat_natCast]
      rw [w64s (by omega)]
      exact h2 k (by omega)
  obtain ⟨m, y, h1, h2, h3⟩ := key l.length 0 (by omega) l a rfl rfl (by omega) (by omega)
  exact ⟨m, y, h1, h2, h3⟩
/-- The number after the marks of the first rows. -/
def markAt (a : Int) (l : List (List Int)) : Nat → Int
  | 0 => a
  | i + 1 => markAt a l i + ((l.getD i []).length : Int)
theorem markAt_bounds (a : Int) (l : List (List Int)) (hx : ∀ x ∈ l, x.length ≤ 1048576) : ∀ i, i ≤ l.length → a ≤ markAt a l i ∧ markAt a l i ≤ a + 1048576 * (i : Int) := by
  intro i
  induction i with
  | zero => intro _; simp [markAt]
  | succ i ih =>
    intro hi
    have h := ih (by omega)
    have h2 : (l.getD i []).length ≤ 1048576 := by
      rw [List.getD_eq_getElem?_getD, List.getElem?_eq_getElem (by omega)]
      exact hx _ (List.getElem_mem (by omega))
    simp only [markAt]
    omega
theorem markHeld_ev (l : List (List Int)) (hl : l.length ≤ 1048576) (hx : ∀ x ∈ l, x.length ≤ 1048576) (a : Int) (ha : 0 ≤ a) (hab : a ≤ 1000000000000000) : ∃ (m : Int) (y : List (List Int)), (∃ K, ∀ k, K ≤ k → laws_markIntSS.f k l a = some (m, y)) ∧ (∃ K, ∀ k, K ≤ k → laws_heldIntSS.f k y a = some m) ∧ 0 ≤ m := by
  have hgd : ∀ i (h : i < l.length), l.getD i [] = l[i] := fun i h => by rw [List.getD_eq_getElem?_getD, List.getElem?_eq_getElem h]; rfl
  have key : ∀ d i, i + d = l.length → ∀ x : List (List Int), x.length = l.length → x.drop i = l.drop i → (∀ j, j < i → x.getD j [] = ramp (markAt a l j) (l.getD j []).length) → ∃ y : List (List Int), (∃ K, ∀ k, K ≤ k → laws_markIntSS.l0 k x (markAt a l i) (i : Int) = some (markAt a l l.length, y)) ∧ y.length = l.length ∧ ∀ j, j < l.length → y.getD j [] = ramp (markAt a l j) (l.getD j []).length := by
    intro d
    induction d with
    | zero =>
      intro i hi x hxl hd hj
      obtain rfl : i = l.length := by omega
      refine ⟨x, ev_suc 0 fun k _ => ?_, hxl, hj⟩
      simp only [laws_markIntSS.l0]
      rw [if_neg (by omega)]
    | succ d ih =>
      intro i hi x hxl hd hj
      have hlt : i < l.length := by omega
      have hltx : i < x.length := by omega
      have hd2 := hd
      rw [List.drop_eq_getElem_cons hltx, List.drop_eq_getElem_cons hlt] at hd2
      obtain ⟨he, hd3⟩ := List.cons.inj hd2
      have hxi : x[i].length ≤ 1048576 := by rw [he]; exact hx _ (List.getElem_mem hlt)
      have hb := markAt_bounds a l hx i (by omega)
      obtain ⟨K1, h1⟩ := markIntS_ev x[i] hxi (markAt a l i) (by omega)
      have hm : markAt a l (i + 1) = markAt a l i + (x[i].length : Int) := by simp only [markAt]; rw [hgd i hlt, he]
      obtain ⟨y, ⟨K2, h2⟩, h3, h4⟩ := ih (i + 1) (by omega) (x.set i (ramp (markAt a l i) x[i].length)) (by rw [List.length_set]; exact hxl) (by rw [List.drop_set_of_lt (by omega)]; exact hd3) (by
        intro j hj2
        by_cases hji : j = i
        · subst hji
          rw [List.getD_eq_getElem?_getD, List.getElem?_set_self hltx, hgd j hlt, he]
          rfl
        · rw [List.getD_eq_getElem?_getD, List.getElem?_set_ne (fun h => hji h.symm), ← List.getD_eq_getElem?_getD]
          exact hj j (by omega))
      refine ⟨y, ev_suc (max K1 K2) fun k hk => ?_, h3, h4⟩
      simp only [laws_markIntSS.l0]
      rw [if_pos (by omega), if_pos (by omega), rdLL_nat x i hltx, h1 k (by omega)]
      simp only [Option.bind_some, Int.toNat_natCast]
      rw [w64s (by omega), ← hm]
      exact h2 k (by omega)
  obtain ⟨y, h1, h2, h3⟩ := key l.length 0 (by omega) l rfl rfl (fun j hj => by omega)
  have hbl := markAt_bounds a l hx l.length (Nat.le_refl _)
  refine ⟨markAt a l l.length, y, h1, ?_, by omega⟩
  have h := ev_loop (F := fun k i => laws_heldIntSS.l0 k y (markAt a l i) (i : Int)) (n := l.length) (res := fun _ => markAt a l l.length)
    (ev_suc 0 fun k _ => by
      simp only [laws_heldIntSS.l0]
      rw [if_neg (by omega)])
    (fun i hi K hK => by
      have hb := markAt_bounds a l hx i (by omega)
      have hb2 := markAt_bounds a l hx (i + 1) (by omega)
      obtain ⟨K2, h4⟩ := heldIntS_ev (l.getD i []).length (by rw [hgd i hi]; exact hx _ (List.getElem_mem hi)) (markAt a l i) (by omega)
      have hyi : rd_L1 y (i : Int) = ramp (markAt a l i) (l.getD i []).length := by
        rw [← h3 i hi]
        simp [rd_L1]
      exact ev_suc (max K K2) fun k hk => by
        simp only [laws_heldIntSS.l0]
        rw [if_pos (by omega), if_pos (by omega), hyi, h4 k (by omega)]
        simp only [Option.bind_some]
        rw [if_neg (by simp only [markAt] at hb2; omega), w64s (by omega)]
        exact hK k (by omega)) 0 (Nat.zero_le _)
  exact h
/-- Both find the place of a number that is there. -/
theorem rank_both (l : List Int) (hl : l.length ≤ 1048576) (a : Int) (ha : a ∈ l) : ∃ r : Int, (∃ K, ∀ k, K ≤ k → spec_maRank.f k l a = some r) ∧ (∃ K, ∀ k, K ≤ k → slices_Index_int_int.f k l a = some r) ∧ 0 ≤ r ∧ r < l.length := by
  have key : ∀ d i, i + d = l.length → a ∈ l.drop i → ∃ r : Int, (∃ K, ∀ k, K ≤ k → spec_maRank.l0 k l a (i : Int) = some r) ∧ (∃ K, ∀ k, K ≤ k → slices_Index_int_int.l0 k l a (l.length : Int) (i : Int) = some r) ∧ 0 ≤ r ∧ r < l.length := by
    intro d
    induction d with
    | zero =>
      intro i hi hm
      rw [List.drop_of_length_le (by omega)] at hm
      simp at hm
    | succ d ih =>
      intro i hi hm
      have hlt : i < l.length := by omega
      by_cases h1 : l[i] = a
      · refine ⟨(i : Int), ev_suc 0 fun k _ => ?_, ev_suc 0 fun k _ => ?_, by omega, by omega⟩
        · simp only [spec_maRank.l0]
          rw [if_pos (by omega), if_pos (by omega), rd_nat l i hlt, if_pos h1]
        · simp only [slices_Index_int_int.l0]
          rw [if_pos (by omega), if_pos (by omega), if_pos (by omega), rd_nat l i hlt, if_pos h1.symm]
      · rw [List.drop_eq_getElem_cons hlt] at hm
        have hm2 := (List.mem_cons.1 hm).resolve_left (fun h => h1 h.symm)
        obtain ⟨r, ⟨K1, h2⟩, ⟨K2, h3⟩, h4⟩ := ih (i + 1) (by omega) hm2
        refine ⟨r, ev_suc K1 fun k hk => ?_, ev_suc K2 fun k hk => ?_, h4⟩
        · simp only [spec_maRank.l0]
          rw [if_pos (by omega), if_pos (by omega), rd_nat l i hlt, if_neg h1, w64s (by omega)]
          exact h2 k hk
        · simp only [slices_Index_int_int.l0]
          rw [if_pos (by omega), if_pos (by omega), if_pos (by omega), rd_nat l i hlt, if_neg (fun h => h1 h.symm), w64s (by omega)]
          exact h3 k hk
  exact key l.length 0 (by omega) (by simpa using ha)
/-- As many different numbers as there are below n are all of them. -/
theorem pigeon : ∀ (n : Nat) (l : List Int), l.Nodup → (∀ x ∈ l, 0 ≤ x ∧ x < (n : Int)) → l.length ≤ n := by
  intro n
  induction n with
  | zero =>
    intro l _ h
    cases l with
    | nil => simp
    | cons x r => have := h x (List.mem_cons_self); omega
  | succ n ih =>
    intro l hn h
    have h2 := ih (l.erase (n : Int)) (hn.erase _) (fun x hx => by
      have h3 := (List.Nodup.mem_erase_iff hn).1 hx
      have h4 := h x h3.2
      have h5 := h3.1
      omega)
    by_cases hm : (n : Int) ∈ l
    · rw [List.length_erase_of_mem hm] at h2
      omega
    · rw [List.erase_of_not_mem hm] at h2
      omega
theorem match_all {l : List Int} {n : Nat} (h : isMatchP l (n : Int)) (j : Int) (h0 : 0 ≤ j) (h1 : j < (n : Int)) : j ∈ l := by
  obtain ⟨h2, h3, h4⟩ := h
  apply Classical.byContradiction
  intro hn
  have h5 := pigeon n (j :: l) (List.nodup_cons.2 ⟨hn, h4⟩) (fun x hx => by
    rcases List.mem_cons.1 hx with rfl | hx
    · exact ⟨h0, h1⟩
    · exact h3 x hx)
  simp only [List.length_cons] at h5
  omega
theorem swapTo_mem (m : List Int) : ∀ i, i ≤ m.length → ∀ z ∈ swapTo m i, 0 ≤ z ∧ z < (m.length : Int) := by
  intro i
  induction i with
  | zero =>
    intro _ z hz
    simp only [swapTo, List.mem_replicate] at hz
    omega
  | succ i ih =>
    intro hi z hz
    simp only [swapTo] at hz
    rcases List.mem_or_eq_of_mem_set hz with h | rfl
    · exact ih (by omega) z h
    · omega
/-- Both find the same pairs. -/
theorem blocking_both (a b : List (List Int)) (m : List Int) (n : Nat) (hn : n ≤ 7) (hal : a.length = n) (hbl : b.length = n) (hml : m.length = n) (ha : ∀ x ∈ a, isMatchP x (n : Int)) (hb : ∀ x ∈ b, isMatchP x (n : Int)) (hm : isMatchP m (n : Int)) : ∃ g : List (List Int), (∃ K, ∀ k, K ≤ k → spec_maBlocking.f k a b m = some g) ∧ (∃ K, ∀ k, K ≤ k → impl_blockingPairs.f k a b m = some g) ∧ g.length ≤ 49 ∧ ∀ x ∈ g, x.length ≤ 2 := by
  obtain ⟨⟨KS, hS⟩, ⟨KT, hT⟩⟩ := swap_ev m (by omega) (by rw [hml]; exact hm)
  have hsl := swapTo_length m m.length
  have hsm := swapTo_mem m m.length (Nat.le_refl _)
  generalize swapTo m m.length = s at *
  have key : ∀ d i, i + d = n → ∀ out : List (List Int), out.length ≤ 7 * i → (∀ x ∈ out, x.length ≤ 2) → ∃ g : List (List Int), (∃ K, ∀ k, K ≤ k → spec_maBlocking.l0 k a b m s out (a.length : Int) (i : Int) = some g) ∧ (∃ K, ∀ k, K ≤ k → impl_blockingPairs.l0 k a b m out s (a.length : Int) (i : Int) = some g) ∧ g.length ≤ 49 ∧ ∀ x ∈ g, x.length ≤ 2 := by
    intro d
    induction d with
    | zero =>
      intro i hi out ho hx
      refine ⟨out, ev_suc 0 fun k _ => ?_, ev_suc 0 fun k _ => ?_, by omega, hx⟩
      · simp only [spec_maBlocking.l0]; rw [if_neg (by omega)]
      · simp only [impl_blockingPairs.l0]; rw [if_neg (by omega)]
    | succ d ih =>
      intro i hi out ho hxo
      have hia : i < a.length := by omega
      have him : i < m.length := by omega
      have hai := ha _ (List.getElem_mem hia)
      have hmi := hm.2.1 _ (List.getElem_mem him)
      have inner : ∀ e j, j + e = n → ∀ out : List (List Int), out.length ≤ 7 * i + j → (∀ x ∈ out, x.length ≤ 2) → ∃ g : List (List Int), (∃ K, ∀ k, K ≤ k → spec_maBlocking.l1 k a b m s out (i : Int) (a.length : Int) (i : Int) (b.length : Int) (j : Int) = some g) ∧ (∃ K, ∀ k, K ≤ k → impl_blockingPairs.l1 k a b m out s (i : Int) (a.length : Int) (i : Int) (b.length : Int) (j : Int) = some g) ∧ g.length ≤ 49 ∧ ∀ x ∈ g, x.length ≤ 2 := by
        intro e
        induction e with
        | zero =>
          intro j hj out ho hx
          obtain ⟨g, ⟨K1, h1⟩, ⟨K2, h2⟩, h3⟩ := ih (i + 1) (by omega) out (by omega) hx
          refine ⟨g, ev_suc K1 fun k hk => ?_, ev_suc K2 fun k hk => ?_, h3⟩
          · simp only [spec_maBlocking.l1]
            rw [if_neg (by omega), w64s (by omega)]
            exact h1 k hk
          · simp only [impl_blockingPairs.l1]
            rw [if_neg (by omega), w64s (by omega)]
            exact h2 k hk
        | succ e ihe =>
          intro j hj out ho hx
          have hjb : j < b.length := by omega
          have hjs : j < s.length := by omega
          have hbj := hb _ (List.getElem_mem hjb)
          have hsj := hsm _ (List.getElem_mem hjs)
          obtain ⟨r1, ⟨A1, e1⟩, ⟨B1, f1⟩, g1⟩ := rank_both a[i] (by have := hai.1; omega) (j : Int) (match_all hai _ (by omega) (by omega))
          obtain ⟨r2, ⟨A2, e2⟩, ⟨B2, f2⟩, g2⟩ := rank_both a[i] (by have := hai.1; omega) m[i] (match_all hai _ hmi.1 hmi.2)
          obtain ⟨r3, ⟨A3, e3⟩, ⟨B3, f3⟩, g3⟩ := rank_both b[j] (by have := hbj.1; omega) (i : Int) (match_all hbj _ (by omega) (by omega))
          obtain ⟨r4, ⟨A4, e4⟩, ⟨B4, f4⟩, g4⟩ := rank_both b[j] (by have := hbj.1; omega) s[j] (match_all hbj _ (by omega) (by omega))
          obtain ⟨g, ⟨K1, h1⟩, ⟨K2, h2⟩, h3⟩ := ihe (j + 1) (by omega) out (by omega) hx
          obtain ⟨g', ⟨K3, h4⟩, ⟨K4, h5⟩, h6⟩ := ihe (j + 1) (by omega) (out ++ [[(i : Int), (j : Int)]]) (by rw [List.length_append, List.length_singleton]; omega) (fun x hx2 => by
            rcases List.mem_append.1 hx2 with h | h
            · exact hx x h
            · rw [List.mem_singleton.1 h]; simp)
          by_cases c1 : r1 < r2
          · by_cases c2 : r3 < r4
            · refine ⟨g', ev_suc (K3 + A1 + A2 + A3 + A4) fun k hk => ?_, ev_suc (K4 + B1 + B2 + B3 + B4) fun k hk => ?_, h6⟩
              · simp only [spec_maBlocking.l1]
                rw [if_pos (by omega), if_pos (by omega), if_pos (by omega), rdLL_nat a i hia, e1 k (by omega)]
                simp only [Option.bind_some]
                rw [if_pos (by omega), rd_nat m i him, e2 k (by omega)]
                simp only [Option.bind_some]
                rw [if_pos c1, if_pos (by omega), if_pos (by omega), rdLL_nat b j hjb, e3 k (by omega)]
                simp only [Option.bind_some]
                rw [if_pos (by omega), rd_nat s j hjs, e4 k (by omega)]
                simp only [Option.bind_some]
                rw [if_pos c2, if_pos (by omega), w64s (by omega)]
                exact h4 k (by omega)
              · simp only [impl_blockingPairs.l1]
                rw [if_pos (by omega), if_pos (by omega), if_pos (by omega), rdLL_nat a i hia, f1 k (by omega)]
                simp only [Option.bind_some]
                rw [if_pos (by omega), rd_nat m i him, f2 k (by omega)]
                simp only [Option.bind_some]
                rw [if_pos c1, if_pos (by omega), if_pos (by omega), rdLL_nat b j hjb, f3 k (by omega)]
                simp only [Option.bind_some]
                rw [if_pos (by omega), rd_nat s j hjs, f4 k (by omega)]
                simp only [Option.bind_some]
                rw [if_pos c2, if_pos (by omega), w64s (by omega)]
                exact h5 k (by omega)
            · refine ⟨g, ev_suc (K1 + A1 + A2 + A3 + A4) fun k hk => ?_, ev_suc (K2 + B1 + B2 + B3 + B4) fun k hk => ?_, h3⟩
              · simp only [spec_maBlocking.l1]
                rw [if_pos (by omega), if_pos (by omega), if_pos (by omega), rdLL_nat a i hia, e1 k (by omega)]
                simp only [Option.bind_some]
                rw [if_pos (by omega), rd_nat m i him, e2 k (by omega)]
                simp only [Option.bind_some]
                rw [if_pos c1, if_pos (by omega), if_pos (by omega), rdLL_nat b j hjb, e3 k (by omega)]
                simp only [Option.bind_some]
                rw [if_pos (by omega), rd_nat s j hjs, e4 k (by omega)]
                simp only [Option.bind_some]
                rw [if_neg c2, w64s (by omega)]
                exact h1 k (by omega)
              · simp only [impl_blockingPairs.l1]
                rw [if_pos (by omega), if_pos (by omega), if_pos (by omega), rdLL_nat a i hia, f1 k (by omega)]
                simp only [Option.bind_some]
                rw [if_pos (by omega), rd_nat m i him, f2 k (by omega)]
                simp only [Option.bind_some]
                rw [if_pos c1, if_pos (by omega), if_pos (by omega), rdLL_nat b j hjb, f3 k (by omega)]
                simp only [Option.bind_some]
                rw [if_pos (by omega), rd_nat s j hjs, f4 k (by omega)]
                simp only [Option.bind_some]
                rw [if_neg c2, w64s (by omega)]
                exact h2 k (by omega)
          · refine ⟨g, ev_suc (K1 + A1 + A2) fun k hk => ?_, ev_suc (K2 + B1 + B2) fun k hk => ?_, h3⟩
            · simp only [spec_maBlocking.l1]
              rw [if_pos (by omega), if_pos (by omega), if_pos (by omega), rdLL_nat a i hia, e1 k (by omega)]
              simp only [Option.bind_some]
              rw [if_pos (by omega), rd_nat m i him, e2 k (by omega)]
              simp only [Option.bind_some]
              rw [if_neg c1, w64s (by omega)]
              exact h1 k (by omega)
            · simp only [impl_blockingPairs.l1]
              rw [if_pos (by omega), if_pos (by omega), if_pos (by omega), rdLL_nat a i hia, f1 k (by omega)]
              simp only [Option.bind_some]
              rw [if_pos (by omega), rd_nat m i him, f2 k (by omega)]
              simp only [Option.bind_some]
              rw [if_neg c1, w64s (by omega)]
              exact h2 k (by omega)
      obtain ⟨g, ⟨K1, h1⟩, ⟨K2, h2⟩, h3⟩ := inner n 0 (by omega) out (by omega) hxo
      refine ⟨g, ev_suc K1 fun k hk => ?_, ev_suc K2 fun k hk => ?_, h3⟩
      · simp only [spec_maBlocking.l0]
        rw [if_pos (by omega)]
        exact h1 k hk
      · simp only [impl_blockingPairs.l0]
        rw [if_pos (by omega)]
        exact h2 k hk
  obtain ⟨g, ⟨K1, h1⟩, ⟨K2, h2⟩, h3⟩ := key n 0 (by omega) [] (by simp) (by simp)
  refine ⟨g, ⟨KS + K1, fun k hk => ?_⟩, ⟨KT + K2, fun k hk => ?_⟩, h3⟩
  · unfold spec_maBlocking.f
    rw [hS k (by omega)]
    exact h1 k (by omega)
  · unfold impl_blockingPairs.f
    rw [hT k (by omega)]
    exact h2 k (by omega)
def sidesOk (a b : List (List Int)) : Bool := prefsOk a && (prefsOk b && decide (a.length = b.length))
theorem sides_both (a b : List (List Int)) (ha : a.length ≤ 1048576) (hxa : ∀ x ∈ a, x.length ≤ 1048576) (hb : b.length ≤ 1048576) (hxb : ∀ x ∈ b, x.length ≤ 1048576) : (∃ K, ∀ k, K ≤ k → spec_maBoth.f k a b = some (sidesOk a b)) ∧ ∃ K, ∀ k, K ≤ k → impl_areSides.f k a b = some (sidesOk a b) := by
  obtain ⟨K1, h1⟩ := maPreferences_ev a ha hxa
  obtain ⟨K2, h2⟩ := maPreferences_ev b hb hxb
  obtain ⟨K3, h3⟩ := implArePreferences_ev a ha hxa
  obtain ⟨K4, h4⟩ := implArePreferences_ev b hb hxb
  have he : ((a.length : Int) == (b.length : Int)) = decide (a.length = b.length) := by
    exact Bool.eq_iff_iff.2 (by simp only [beq_iff_eq, decide_eq_true_eq]; omega)
  constructor
  · refine ⟨K1 + K2, fun k hk => ?_⟩
    unfold spec_maBoth.f sidesOk
    rw [h1 k (by omega)]
    simp only [Option.bind_some]
    cases prefsOk a with
    | false => rw [if_neg (by simp), Bool.false_and]
    | true =>
      rw [if_pos rfl, h2 k (by omega)]
      simp only [Option.bind_some]
      cases prefsOk b with
      | false => rw [if_neg (by simp), Bool.false_and, Bool.and_false]
      | true => rw [if_pos rfl, he, Bool.true_and, Bool.true_and]
  · refine ⟨K3 + K4, fun k hk => ?_⟩
    unfold impl_areSides.f sidesOk
    rw [h3 k (by omega)]
    simp only [Option.bind_some]
    cases prefsOk a with
    | false => rw [if_neg (by simp), Bool.false_and]
    | true =>
      rw [if_pos rfl, h4 k (by omega)]
      simp only [Option.bind_some]
      cases prefsOk b with
      | false => rw [if_neg (by simp), Bool.false_and, Bool.and_false]
      | true => rw [if_pos rfl, he, Bool.true_and, Bool.true_and]
theorem FnExactBlockingPairs (a : List (List Int)) (b : List (List Int)) (m : List Int) (hl : a.length ≤ maxLen) (hw : ∀ x ∈ a, x.length ≤ maxLen ∧ ∀ z ∈ x, (Lit.int .i64 z).wf = true) (hl' : b.length ≤ maxLen) (hw' : ∀ x ∈ b, x.length ≤ maxLen ∧ ∀ z ∈ x, (Lit.int .i64 z).wf = true) (hlm : m.length ≤ maxLen) (_ : ∀ z ∈ m, (Lit.int .i64 z).wf = true) : ∃ k, MFnExactBlockingPairs.Told k a b m := by
  by_cases hm0 : (m.length : Int) > 1048576
  · exact ⟨0, .inl hm0⟩
  obtain ⟨r, ⟨K0, h0⟩, hr⟩ := szIntSS_ev a 1048576 (by omega) hl (fun x hx => (hw x hx).1)
  by_cases hneg : r < 0
  · exact ⟨K0, .inr (.inl ⟨r, h0 K0 (Nat.le_refl _), hm0, hneg⟩)⟩
  have hba := hr (by omega)
  obtain ⟨r2, ⟨K1, h1⟩, hr2⟩ := szIntSS_ev b r (by omega) hl' (fun x hx => (hw' x hx).1)
  by_cases hneg2 : r2 < 0
  · exact ⟨K0 + K1, .inr (.inr (.inl ⟨r, r2, h0 _ (by omega), h1 _ (by omega), hm0, hneg, hneg2⟩))⟩
  have hbb := hr2 (by omega)
  have ha2 : a.length ≤ 1048576 := by omega
  have hxa2 : ∀ x ∈ a, x.length ≤ 1048576 := fun x hx => by have := hba.2.2 x hx; omega
  have hb2 : b.length ≤ 1048576 := by omega
  have hxb2 : ∀ x ∈ b, x.length ≤ 1048576 := fun x hx => by have := hbb.2.2 x hx; omega
  have hm2 : m.length ≤ 1048576 := by omega
  obtain ⟨K2, h2⟩ := toIntSS_ev a ha2 hxa2
  obtain ⟨K3, h3⟩ := toIntSS_ev b hb2 hxb2
  obtain ⟨K4, h4⟩ := toIntS_ev m hm2
  obtain ⟨K5, h5⟩ := eqIntSS_ev a ha2 hxa2
  obtain ⟨K6, h6⟩ := eqIntSS_ev b hb2 hxb2
  obtain ⟨K7, h7⟩ := eqIntS_ev m hm2
  obtain ⟨m0, y0, ⟨K8, h8⟩, g8, q8⟩ := markIntSS_ev a ha2 hxa2 1 (by omega) (by omega)
  obtain ⟨m1, y1, ⟨K9, h9⟩, g9, q9⟩ := markIntSS_ev b hb2 hxb2 m0 (by omega) (by omega)
  obtain ⟨K10, h10⟩ := markIntS_ev m hm2 m1 (by omega)
  obtain ⟨⟨K11, h11⟩, ⟨K12, h12⟩⟩ := sides_both a b ha2 hxa2 hb2 hxb2
  obtain ⟨K13, h13⟩ := maMatch_ev m hm2 (a.length : Int) (by omega)
  obtain ⟨K14, h14⟩ := implIsMatch_ev m hm2 (a.length : Int) (by omega)
  obtain ⟨g, c, ⟨K15, h15⟩, ⟨K16, h16⟩, h17, h18⟩ : ∃ (g : List (List Int)) (c : Bool), (∃ K, ∀ k, K ≤ k → spec_BlockingPairs.f k a b m = some (g, c)) ∧ (∃ K, ∀ k, K ≤ k → impl_BlockingPairs.f k a b m = some (g, c)) ∧ g.length ≤ 49 ∧ ∀ x ∈ g, x.length ≤ 2 := by
    by_cases hs : sidesOk a b = true
    · have hs2 := hs
      simp only [sidesOk, Bool.and_eq_true, decide_eq_true_eq] at hs2
      obtain ⟨s1, s2, s3⟩ := hs2
      obtain ⟨p1, p2, p3⟩ := (prefsOk_iff a).1 s1
      obtain ⟨t1, t2, t3⟩ := (prefsOk_iff b).1 s2
      by_cases hmm : isMatchP m (a.length : Int)
      · obtain ⟨g, ⟨K1, h1⟩, ⟨K2, h2⟩, h3, h4⟩ := blocking_both a b m a.length p3 rfl s3.symm (by have := hmm.1; omega) p1 (by rw [s3]; exact t1) hmm
        refine ⟨g, true, ⟨K11 + K13 + K1, fun k hk => ?_⟩, ⟨K12 + K14 + K2, fun k hk => ?_⟩, h3, h4⟩
        · unfold spec_BlockingPairs.f
          rw [h11 k (by omega)]
          simp only [Option.bind_some]
          rw [if_pos hs, h13 k (by omega)]
          simp only [Option.bind_some]
          rw [if_pos (decide_eq_true ⟨hmm, by omega, by omega⟩), h1 k (by omega)]
          rfl
        · unfold impl_BlockingPairs.f
          rw [h12 k (by omega)]
          simp only [Option.bind_some]
          rw [if_pos hs, h14 k (by omega)]
          simp only [Option.bind_some]
          rw [if_pos (decide_eq_true hmm), h2 k (by omega)]
          rfl
      · refine ⟨[], false, ⟨K11 + K13, fun k hk => ?_⟩, ⟨K12 + K14, fun k hk => ?_⟩, by simp, by simp⟩
        · unfold spec_BlockingPairs.f
          rw [h11 k (by omega)]
          simp only [Option.bind_some]
          rw [if_pos hs, h13 k (by omega)]
          simp only [Option.bind_some]
          rw [if_neg (by simp [hmm])]
        · unfold impl_BlockingPairs.f
          rw [h12 k (by omega)]
          simp only [Option.bind_some]
          rw [if_pos hs, h14 k (by omega)]
          simp only [Option.bind_some]
          rw [if_neg (by simp [hmm])]
    · refine ⟨[], false, ⟨K11, fun k hk => ?_⟩, ⟨K12, fun k hk => ?_⟩, by simp, by simp⟩
      · unfold spec_BlockingPairs.f
        rw [h11 k (by omega)]
        simp only [Option.bind_some]
        rw [if_neg hs]
      · unfold impl_BlockingPairs.f
        rw [h12 k (by omega)]
        simp only [Option.bind_some]
        rw [if_neg hs]
  obtain ⟨K17, h19⟩ := eqIntSS_ev g (by omega) (fun x hx => by have := h18 x hx; omega)
  obtain ⟨n0, z0, ⟨K18, h20⟩, ⟨K19, h21⟩, h22⟩ := markHeld_ev g (by omega) (fun x hx => by have := h18 x hx; omega) 1 (by omega) (by omega)
  refine ⟨K0 + K1 + K2 + K3 + K4 + K5 + K6 + K7 + K8 + K9 + K10 + K15 + K16 + K17 + K18 + K19, .inr (.inr (.inr ⟨g, c, r, r2, m0, y0, m1, y1, m1 + (m.length : Int), ramp m1 m.length, n0, z0, ?_⟩))⟩
  exact ⟨h0 _ (by omega), h1 _ (by omega), h2 _ (by omega), h3 _ (by omega), h4 _ (by omega), h15 _ (by omega), h16 _ (by omega), h19 _ (by omega), h5 _ (by omega), h6 _ (by omega), h7 _ (by omega), h8 _ (by omega), h9 _ (by omega), h10 _ (by omega), h20 _ (by omega), h21 _ (by omega), hneg, hneg2, by omega, by omega, hm0⟩

end Go.Proofs.Ytjipboafhakjfaa.Pure
