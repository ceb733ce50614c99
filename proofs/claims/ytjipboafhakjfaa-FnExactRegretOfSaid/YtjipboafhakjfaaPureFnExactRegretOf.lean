/- THE PURE SIDE OF FnExactRegretOf: the printed functions of the reference and of the program give the same results. Plain Lean: no memory and no Go. -/
import Derived.Test.YtjipboafhakjfaaPFnExactRegretOfx5
import Derived.OpenShut
namespace Go.Proofs.Ytjipboafhakjfaa.Pure
open Go.RowKit Go.Proofs.Ytjipboafhakjfaa.PFnExactRegretOf Go.Proofs.YtjipboafhakjfaaW.PrintWords Go.Proofs.YtjipboafhakjfaaW.PrintLast Go.Proofs.YtjipboafhakjfaaW.PrintMore
set_option linter.unusedVariables false
set_option linter.unusedSimpArgs false

theorem w64 {x : Int} (h1 : -9223372036854775808 ≤ x) (h2 : x ≤ 9223372036854775807) : wrap64 x = x := by unfold wrap64; omega
theorem w64s {i : Nat} (h : i ≤ 9000000000000000000) : wrap64 ((i : Int) + 1) = ((i + 1 : Nat) : Int) := by rw [w64 (by omega) (by omega)]; omega
theorem rd_nat (l : List Int) (i : Nat) (h : i < l.length) : rd l (i : Int) = l[i] := by simp [rd, List.getD_eq_getElem?_getD, h]
theorem wf64 {x : Int} (h : (Lit.int .i64 x).wf = true) : -9223372036854775808 ≤ x ∧ x ≤ 9223372036854775807 := by
  have := bounds_i64 h
  omega
def inr (lo hi x : Int) : Bool := decide (lo ≤ x) && decide (x ≤ hi)
theorem inr_iff (lo hi x : Int) : inr lo hi x = true ↔ lo ≤ x ∧ x ≤ hi := by simp [inr]
theorem inr_false (lo hi x : Int) : inr lo hi x = false ↔ ¬ (lo ≤ x ∧ x ≤ hi) := by rw [← inr_iff, Bool.not_eq_true]
theorem mx_of_lt {a b : Int} (h : a < b) : mx a b = b := if_pos h
theorem mx_of_ge {a b : Int} (h : b ≤ a) : mx a b = a := if_neg (by omega)
theorem mx_spec (a b : Int) : a ≤ mx a b ∧ b ≤ mx a b ∧ (mx a b = a ∨ mx a b = b) := by unfold mx; split <;> omega
theorem l1In_eq (a b c : Int) : spec_l1In.f a b c = some (inr b c a) := by
  unfold spec_l1In.f inr
  by_cases h : a ≥ b
  · rw [if_pos h]; simp [show b ≤ a from h]
  · rw [if_neg h]; simp [show ¬ b ≤ a from h]
theorem l1All_l0 (lo hi : Int) (l : List Int) (hl : l.length ≤ 9000000000000000000) : ∀ (d k i : Nat), i + d = l.length → d < k → spec_l1All.l0 k lo hi l (l.length : Int) (i : Int) = some ((l.drop i).all (inr lo hi)) := by
  intro d
  induction d with
  | zero =>
    intro k i hi' hk
    obtain ⟨k, rfl⟩ : ∃ m, k = m + 1 := ⟨k - 1, by omega⟩
    simp only [spec_l1All.l0]
    rw [if_neg (by omega), List.drop_of_length_le (by omega)]; rfl
  | succ d ih =>
    intro k i hi' hk
    obtain ⟨k, rfl⟩ : ∃ m, k = m + 1 := ⟨k - 1, by omega⟩
    have hlt : i < l.length := by omega
    simp only [spec_l1All.l0]
    rw [if_pos (by omega), if_pos (by omega), if_pos (by omega), l1In_eq, List.drop_eq_getElem_cons hlt, List.all_cons, rd_nat l i hlt, w64s (by omega), ih k (i + 1) (by omega) (by omega)]
    simp only [Option.bind_some]
    by_cases h : inr lo hi l[i] = true
    · rw [if_pos h, h, Bool.true_and]
    · rw [if_neg h, Bool.eq_false_iff.mpr h, Bool.false_and]
theorem l1All_eq (lo hi : Int) (l : List Int) (hl : l.length ≤ 9000000000000000000) (k : Nat) (hk : l.length < k) : spec_l1All.f k l lo hi = some (l.all (inr lo hi)) := by
  unfold spec_l1All.f
  exact l1All_l0 lo hi l hl l.length k 0 (by omega) hk
theorem eqIntS_l0 (l : List Int) (hl : l.length ≤ 9000000000000000000) : ∀ (d k i : Nat), i + d = l.length → d < k → laws_eqIntS.l0 k l l (i : Int) = some true := by
  intro d
  induction d with
  | zero =>
    intro k i hi' hk
    obtain ⟨k, rfl⟩ : ∃ m, k = m + 1 := ⟨k - 1, by omega⟩
    simp only [laws_eqIntS.l0]
    rw [if_neg (by omega)]
  | succ d ih =>
    intro k i hi' hk
    obtain ⟨k, rfl⟩ : ∃ m, k = m + 1 := ⟨k - 1, by omega⟩
    simp only [laws_eqIntS.l0]
    rw [if_pos (by omega), if_pos (by omega), if_pos (by omega), if_pos trivial, w64s (by omega)]
    exact ih k (i + 1) (by omega) (by omega)
theorem eqIntS_self (l : List Int) (hl : l.length ≤ 9000000000000000000) (k : Nat) (hk : l.length < k) : laws_eqIntS.f k l l = some true := by
  unfold laws_eqIntS.f
  rw [if_pos rfl]
  exact eqIntS_l0 l hl l.length k 0 (by omega) hk
theorem ev_loop {β : Type} {F : Nat → Nat → Option β} {n : Nat} {res : Nat → β} (last : ∃ K, ∀ k, K ≤ k → F k n = some (res n)) (step : ∀ i, i < n → ∀ K, (∀ k, K ≤ k → F k (i + 1) = some (res (i + 1))) → ∃ K, ∀ k, K ≤ k → F k i = some (res i)) : ∀ i, i ≤ n → ∃ K, ∀ k, K ≤ k → F k i = some (res i) := by
  have key : ∀ d i, i + d = n → ∃ K, ∀ k, K ≤ k → F k i = some (res i) := by
    intro d
    induction d with
    | zero => intro i h; obtain rfl : i = n := by omega
              exact last
    | succ d ih =>
      intro i h
      obtain ⟨K, hK⟩ := ih (i + 1) (by omega)
      exact step i (by omega) K hK
  exact fun i h => key (n - i) i (by omega)
/-- One round more. -/
theorem ev_suc {β : Type} {g : Nat → Option β} {r : β} (K : Nat) (h : ∀ k, K ≤ k → g (k + 1) = some r) : ∃ K, ∀ k, K ≤ k → g k = some r :=
  ⟨K + 1, fun k hk => by obtain ⟨k, rfl⟩ : ∃ m, k = m + 1 := ⟨k - 1, by omega⟩; exact h k (by omega)⟩
theorem fill_step {α : Type} (l : List α) (z : α) (i : Nat) (h : i < l.length) : (l.take i ++ List.replicate (l.length - i) z).set i l[i] = l.take (i + 1) ++ List.replicate (l.length - (i + 1)) z := by
  have e : l.length - i = (l.length - (i + 1)) + 1 := by omega
  rw [List.set_append_right _ _ (by rw [List.length_take]; omega), List.length_take, Nat.min_eq_left (by omega), Nat.sub_self, e, List.replicate_succ, List.set_cons_zero, List.take_succ_eq_append_getElem h, List.append_assoc, List.singleton_append]
theorem fill_length {α : Type} (l : List α) (z : α) (i : Nat) (h : i ≤ l.length) : (l.take i ++ List.replicate (l.length - i) z).length = l.length := by
  rw [List.length_append, List.length_take, List.length_replicate]; omega
theorem fill_last {α : Type} (l : List α) (z : α) : l.take l.length ++ List.replicate (l.length - l.length) z = l := by simp
/-- What 'sz' leaves: where it isn't below 0, the row is no longer than that. -/
theorem szIntS_ev (l : List Int) (a : Int) (ha : 0 ≤ a ∧ a ≤ 1048576) (hl : l.length ≤ maxLen) : ∃ r, laws_szIntS.f l a = some r ∧ (0 ≤ r → r = a - l.length) ∧ (r < 0 → a < l.length) := by
  simp only [maxLen] at hl
  unfold laws_szIntS.f
  rw [w64 (by omega) (by omega)]
  by_cases h : a - (l.length : Int) < 0
  · exact ⟨-1, by rw [if_pos h], fun h2 => by omega, fun _ => by omega⟩
  · exact ⟨a - (l.length : Int), by rw [if_neg h], fun _ => rfl, fun h2 => by omega⟩
theorem rdLL_nat (l : List (List Int)) (i : Nat) (h : i < l.length) : rd_L1 l (i : Int) = l[i] := by simp [rd_L1, List.getD_eq_getElem?_getD, h]
theorem szIntSS_ev (l : List (List Int)) (a : Int) (ha : 0 ≤ a ∧ a ≤ 1048576) (hl : l.length ≤ maxLen) (hx : ∀ x ∈ l, x.length ≤ maxLen) : ∃ r, (∃ K, ∀ k, K ≤ k → laws_szIntSS.f k l a = some r) ∧ (0 ≤ r → r ≤ a ∧ (l.length : Int) ≤ a ∧ ∀ x ∈ l, (x.length : Int) ≤ a) := by
  simp only [maxLen] at hl
  by_cases h : a - (l.length : Int) < 0
  · refine ⟨-1, ⟨0, fun k _ => ?_⟩, fun h2 => by omega⟩
    unfold laws_szIntSS.f
    rw [w64 (by omega) (by omega), if_pos h]
  · have key : ∀ d i, i + d = l.length → ∀ b : Int, 0 ≤ b → b ≤ a → ∃ r, (∃ K, ∀ k, K ≤ k → laws_szIntSS.l0 k l b (i : Int) = some r) ∧ (0 ≤ r → r ≤ b ∧ ∀ x ∈ l.drop i, (x.length : Int) ≤ a) := by
      intro d
      induction d with
      | zero =>
        intro i hi b hb hba
        refine ⟨b, ev_suc 0 fun k _ => ?_, fun _ => ⟨by omega, fun x hx => ?_⟩⟩
        · simp only [laws_szIntSS.l0]
          rw [if_neg (by omega)]
        · rw [List.drop_of_length_le (by omega)] at hx
          simp at hx
      | succ d ih =>
        intro i hi b hb hba
        have hlt : i < l.length := by omega
        obtain ⟨r, h1, h2, h3⟩ := szIntS_ev l[i] b (by omega) (hx _ (List.getElem_mem hlt))
        by_cases h4 : r < 0
        · refine ⟨-1, ev_suc 0 fun k _ => ?_, fun h5 => by omega⟩
          simp only [laws_szIntSS.l0]
          rw [if_pos (by omega), if_pos (by omega), rdLL_nat l i hlt, h1]
          simp only [Option.bind_some]
          rw [if_pos h4]
        · have h5 := h2 (by omega)
          obtain ⟨r2, ⟨K, h6⟩, h7⟩ := ih (i + 1) (by omega) r (by omega) (by omega)
          refine ⟨r2, ev_suc K fun k hk => ?_, fun h8 => ⟨by have := (h7 h8).1; omega, fun x hx => ?_⟩⟩
          · simp only [laws_szIntSS.l0]
            rw [if_pos (by omega), if_pos (by omega), rdLL_nat l i hlt, h1]
            simp only [Option.bind_some]
            rw [if_neg h4, w64s (by omega)]
            exact h6 k hk
          · rw [List.drop_eq_getElem_cons hlt] at hx
            rcases List.mem_cons.1 hx with rfl | hx
            · omega
            · exact (h7 h8).2 x hx
    obtain ⟨r, ⟨K, h1⟩, h2⟩ := key l.length 0 (by omega) (a - l.length) (by omega) (by omega)
    refine ⟨r, ⟨K, fun k hk => ?_⟩, fun h3 => ⟨by have := (h2 h3).1; omega, by omega, by simpa using (h2 h3).2⟩⟩
    unfold laws_szIntSS.f
    rw [w64 (by omega) (by omega), if_neg h]
    exact h1 k hk
theorem toIntS_ev (l : List Int) (hl : l.length ≤ 1048576) : ∃ K, ∀ k, K ≤ k → laws_toIntS.f k l = some l := by
  have h := ev_loop (F := fun k i => laws_toIntS.l0 k l (l.take i ++ List.replicate (l.length - i) 0) (i : Int)) (n := l.length) (res := fun _ => l)
    (ev_suc 0 fun k _ => by simp only [laws_toIntS.l0]; rw [if_neg (by omega), fill_last])
    (fun i hi K hK => ev_suc K fun k hk => by
      simp only [laws_toIntS.l0]
      rw [if_pos (by omega), if_pos (by omega), if_pos (by rw [fill_length l 0 i (by omega)]; omega), Int.toNat_natCast, rd_nat l i hi, fill_step l 0 i hi, w64s (by omega)]
      exact hK k hk) 0 (Nat.zero_le _)
  obtain ⟨K, h⟩ := h
  refine ⟨K, fun k hk => ?_⟩
  unfold laws_toIntS.f
  rw [if_pos (by omega), if_pos (by omega), Int.toNat_natCast]
  simpa using h k hk
theorem toIntSS_ev (l : List (List Int)) (hl : l.length ≤ 1048576) (hx : ∀ x ∈ l, x.length ≤ 1048576) : ∃ K, ∀ k, K ≤ k → laws_toIntSS.f k l = some l := by
  have h := ev_loop (F := fun k i => laws_toIntSS.l0 k l (l.take i ++ List.replicate (l.length - i) []) (i : Int)) (n := l.length) (res := fun _ => l)
    (ev_suc 0 fun k _ => by simp only [laws_toIntSS.l0]; rw [if_neg (by omega), fill_last])
    (fun i hi K hK => by
      obtain ⟨K2, h2⟩ := toIntS_ev l[i] (hx _ (List.getElem_mem hi))
      exact ev_suc (max K K2) fun k hk => by
        simp only [laws_toIntSS.l0]
        rw [if_pos (by omega), if_pos (by omega), rdLL_nat l i hi, h2 k (by omega)]
        simp only [Option.bind_some]
        rw [if_pos (by rw [fill_length l [] i (by omega)]; omega), Int.toNat_natCast, fill_step l [] i hi, w64s (by omega)]
        exact hK k (by omega)) 0 (Nat.zero_le _)
  obtain ⟨K, h⟩ := h
  refine ⟨K, fun k hk => ?_⟩
  unfold laws_toIntSS.f
  rw [if_pos (by omega), if_pos (by omega), Int.toNat_natCast]
  simpa using h k hk
theorem eqIntS_ev (l : List Int) (hl : l.length ≤ 1048576) : ∃ K, ∀ k, K ≤ k → laws_eqIntS.f k l l = some true :=
  ⟨l.length + 1, fun k hk => eqIntS_self l (by omega) k (by omega)⟩
theorem eqIntSS_ev (l : List (List Int)) (hl : l.length ≤ 1048576) (hx : ∀ x ∈ l, x.length ≤ 1048576) : ∃ K, ∀ k, K ≤ k → laws_eqIntSS.f k l l = some true := by
  have h := ev_loop (F := fun k i => laws_eqIntSS.l0 k l l (i : Int)) (n := l.length) (res := fun _ => true)
    (ev_suc 0 fun k _ => by simp only [laws_eqIntSS.l0]; rw [if_neg (by omega)])
    (fun i hi K hK => by
      obtain ⟨K2, h2⟩ := eqIntS_ev l[i] (hx _ (List.getElem_mem hi))
      exact ev_suc (max K K2) fun k hk => by
        simp only [laws_eqIntSS.l0]
        rw [if_pos (by omega), if_pos (by omega), if_pos (by omega), rdLL_nat l i hi, h2 k (by omega)]
        simp only [Option.bind_some]
        rw [if_pos trivial, w64s (by omega)]
        exact hK k (by omega)) 0 (Nat.zero_le _)
  obtain ⟨K, h⟩ := h
  refine ⟨K, fun k hk => ?_⟩
  unfold laws_eqIntSS.f
  rw [if_pos rfl]
  exact h k hk
theorem l1All_ev (lo hi : Int) (l : List Int) (hl : l.length ≤ 1048576) : ∃ K, ∀ k, K ≤ k → spec_l1All.f k l lo hi = some (l.all (inr lo hi)) :=
  ⟨l.length + 1, fun k hk => l1All_eq lo hi l (by omega) k (by omega)⟩

def costsOk (l : List (List Int)) : Bool := (l.all fun x => decide (x.length = l.length) && x.all (inr 0 10000)) && inr 1 7 (l.length : Int)
theorem costsOk_iff (l : List (List Int)) : costsOk l = true ↔ (∀ x ∈ l, x.length = l.length ∧ ∀ z ∈ x, 0 ≤ z ∧ z ≤ 10000) ∧ 1 ≤ l.length ∧ l.length ≤ 7 := by
  simp only [costsOk, Bool.and_eq_true, List.all_eq_true, decide_eq_true_eq, inr_iff]
  constructor
  · rintro ⟨h1, h2, h3⟩
    exact ⟨h1, by omega, by omega⟩
  · rintro ⟨h1, h2, h3⟩
    exact ⟨h1, by omega, by omega⟩
theorem maCosts_ev (l : List (List Int)) (hl : l.length ≤ 1048576) (hx : ∀ x ∈ l, x.length ≤ 1048576) : ∃ K, ∀ k, K ≤ k → spec_maCosts.f k l = some (costsOk l) := by
  have h := ev_loop (F := fun k i => spec_maCosts.l0 k l l (l.length : Int) (i : Int)) (n := l.length) (res := fun i => ((l.drop i).all fun x => decide (x.length = l.length) && x.all (inr 0 10000)) && inr 1 7 (l.length : Int))
    (ev_suc 0 fun k _ => by
      simp only [spec_maCosts.l0]
      rw [if_neg (by omega), l1In_eq, List.drop_of_length_le (Nat.le_refl _)]
      rfl)
    (fun i hi K hK => by
      obtain ⟨K2, h2⟩ := l1All_ev 0 10000 l[i] (hx _ (List.getElem_mem hi))
      exact ev_suc (max K K2) fun k hk => by
        simp only [spec_maCosts.l0]
        rw [if_pos (by omega), if_pos (by omega), if_pos (by omega), rdLL_nat l i hi, List.drop_eq_getElem_cons hi, List.all_cons]
        by_cases h3 : l[i].length = l.length
        · rw [if_pos (by omega), h2 k (by omega), decide_eq_true h3, Bool.true_and]
          simp only [Option.bind_some]
          by_cases h4 : l[i].all (inr 0 10000) = true
          · rw [if_pos h4, h4, Bool.true_and, w64s (by omega)]
            exact hK k (by omega)
          · rw [if_neg h4, Bool.eq_false_iff.mpr h4, Bool.false_and, Bool.false_and]
        · rw [if_neg (by omega), decide_eq_false h3]
          simp only [Bool.false_and]) 0 (Nat.zero_le _)
  exact h
theorem implAreCosts_l1 (l row : List (List Int)) (n i : Int) (c : List Int) (hc : c.length ≤ 1048576) (R : Bool) (K : Nat) (h : ∀ k, K ≤ k → impl_AreCosts.l0 k l row n (wrap64 (i + 1)) = some R) :
    ∃ K, ∀ k, K ≤ k → impl_AreCosts.l1 k l row n i c (c.length : Int) 0 = some (c.all (inr 0 10000) && R) := by
  have h := ev_loop (F := fun k j => impl_AreCosts.l1 k l row n i c (c.length : Int) (j : Int)) (n := c.length) (res := fun j => (c.drop j).all (inr 0 10000) && R)
    (ev_suc K fun k hk => by
      simp only [impl_AreCosts.l1]
      rw [if_neg (by omega), List.drop_of_length_le (Nat.le_refl _), h k hk]
      rfl)
    (fun j hj K hK => ev_suc K fun k hk => by
      simp only [impl_AreCosts.l1]
      rw [if_pos (by omega), if_pos (by omega), if_pos (by omega), rd_nat c j hj, List.drop_eq_getElem_cons hj, List.all_cons]
      by_cases h1 : c[j] < 0
      · rw [if_pos h1, (inr_false _ _ _).2 (by omega)]; rfl
      · rw [if_neg h1]
        by_cases h2 : c[j] > 10000
        · rw [if_pos h2, (inr_false _ _ _).2 (by omega)]; rfl
        · rw [if_neg h2, (inr_iff _ _ _).2 (by omega), w64s (by omega), hK k hk]; rfl) 0 (Nat.zero_le _)
  exact h
theorem implAreCosts_ev (l : List (List Int)) (hl : l.length ≤ 1048576) (hx : ∀ x ∈ l, x.length ≤ 1048576) : ∃ K, ∀ k, K ≤ k → impl_AreCosts.f k l = some (costsOk l) := by
  have h := ev_loop (F := fun k i => impl_AreCosts.l0 k l l (l.length : Int) (i : Int)) (n := l.length) (res := fun i => (l.drop i).all fun x => decide (x.length = l.length) && x.all (inr 0 10000))
    (ev_suc 0 fun k _ => by
      simp only [impl_AreCosts.l0]
      rw [if_neg (by omega), List.drop_of_length_le (Nat.le_refl _)]
      rfl)
    (fun i hi K hK => by
      obtain ⟨K2, h2⟩ := implAreCosts_l1 l l (l.length : Int) (i : Int) l[i] (hx _ (List.getElem_mem hi)) _ K (by rw [w64s (by omega)]; exact hK)
      exact ev_suc K2 fun k hk => by
        simp only [impl_AreCosts.l0]
        rw [if_pos (by omega), if_pos (by omega), if_pos (by omega), rdLL_nat l i hi, List.drop_eq_getElem_cons hi, List.all_cons]
        by_cases h3 : l[i].length = l.length
        · rw [if_pos (by omega), h2 k hk, decide_eq_true h3, Bool.true_and]
        · rw [if_neg (by omega), decide_eq_false h3]
          simp only [Bool.false_and]) 0 (Nat.zero_le _)
  obtain ⟨K, h⟩ := h
  refine ev_suc K fun k hk => ?_
  have hk2 := h k hk
  unfold impl_AreCosts.f costsOk
  by_cases h1 : (l.length : Int) < 1
  · rw [if_pos h1, (inr_false _ _ _).2 (by omega), Bool.and_false]
    simp only [impl_AreCosts.j0]
    rw [if_pos trivial]
  · rw [if_neg h1]
    simp only [impl_AreCosts.j0]
    by_cases h2 : (l.length : Int) > 7
    · rw [if_pos (by simpa using h2), (inr_false _ _ _).2 (by omega), Bool.and_false]
    · rw [if_neg (by simpa using h2), (inr_iff _ _ _).2 (by omega), Bool.and_true]
      exact hk2
/-- What the first trucks cost. -/
def costTo (c : List (List Int)) (m : List Int) : Nat → Int
  | 0 => 0
  | i + 1 => costTo c m i + rd (rd_L1 c (i : Int)) (rd m (i : Int))
structure Fits (c : List (List Int)) (m : List Int) : Prop where
  len : m.length = c.length
  small : c.length ≤ 7
  rows : ∀ x ∈ c, x.length = c.length ∧ ∀ z ∈ x, 0 ≤ z ∧ z ≤ 10000
  ks : ∀ x ∈ m, 0 ≤ x ∧ x < (c.length : Int)
theorem fits_at {c : List (List Int)} {m : List Int} (h : Fits c m) {i : Nat} (hi : i < m.length) : 0 ≤ rd m (i : Int) ∧ rd m (i : Int) < (c.length : Int) ∧ (rd_L1 c (i : Int)).length = c.length ∧ 0 ≤ rd (rd_L1 c (i : Int)) (rd m (i : Int)) ∧ rd (rd_L1 c (i : Int)) (rd m (i : Int)) ≤ 10000 := by
  have hic : i < c.length := by rw [← h.len]; exact hi
  rw [rd_nat m i hi, rdLL_nat c i hic]
  have h1 := h.ks m[i] (List.getElem_mem hi)
  have h2 := h.rows c[i] (List.getElem_mem hic)
  obtain ⟨j, hj⟩ := Int.eq_ofNat_of_zero_le h1.1
  have hjl : j < c[i].length := by omega
  rw [hj, rd_nat c[i] j hjl]
  have h3 := h2.2 _ (List.getElem_mem hjl)
  exact ⟨by omega, by omega, h2.1, h3.1, h3.2⟩
theorem costTo_bounds {c : List (List Int)} {m : List Int} (h : Fits c m) : ∀ i, i ≤ m.length → 0 ≤ costTo c m i ∧ costTo c m i ≤ 10000 * (i : Int) := by
  intro i
  induction i with
  | zero => intro _; simp [costTo]
  | succ i ih =>
    intro hi
    have h1 := ih (by omega)
    have h2 := fits_at h (i := i) (by omega)
    simp only [costTo]
    omega
theorem maCost_ev {c : List (List Int)} {m : List Int} (h : Fits c m) : (∃ K, ∀ k, K ≤ k → spec_maCost.f k c m = some (costTo c m m.length)) ∧ ∃ K, ∀ k, K ≤ k → impl_matchCost.f k c m = some (costTo c m m.length) := by
  have hml := h.len
  have hs := h.small
  have h1 := ev_loop (F := fun k i => spec_maCost.l0 k c (costTo c m i) m (m.length : Int) (i : Int)) (n := m.length) (res := fun _ => costTo c m m.length)
    (ev_suc 0 fun k _ => by simp only [spec_maCost.l0]; rw [if_neg (by omega)])
    (fun i hi K hK => ev_suc K fun k hk => by
      have h2 := fits_at h hi
      have h3 := costTo_bounds h i (by omega)
      simp only [spec_maCost.l0]
      rw [if_pos (by omega), if_pos (by omega), if_pos (by omega), if_pos (by omega), if_pos (by omega), if_pos (by omega), w64 (by omega) (by omega), w64s (by omega)]
      exact hK k hk) 0 (Nat.zero_le _)
  have h2 := ev_loop (F := fun k i => impl_matchCost.l0 k c (costTo c m i) m (m.length : Int) (i : Int)) (n := m.length) (res := fun _ => costTo c m m.length)
    (ev_suc 0 fun k _ => by simp only [impl_matchCost.l0]; rw [if_neg (by omega)])
    (fun i hi K hK => ev_suc K fun k hk => by
      have h2 := fits_at h hi
      have h3 := costTo_bounds h i (by omega)
      simp only [impl_matchCost.l0]
      rw [if_pos (by omega), if_pos (by omega), if_pos (by omega), if_pos (by omega), if_pos (by omega), if_pos (by omega), w64 (by omega) (by omega), w64s (by omega)]
      exact hK k hk) 0 (Nat.zero_le _)
  exact ⟨h1, h2⟩
theorem l1Has_ev (l : List Int) (hl : l.length ≤ 1048576) (a : Int) : ∃ K, ∀ k, K ≤ k → spec_l1Has.f k l a = some (decide (a ∈ l)) := by
  have h := ev_loop (F := fun k i => spec_l1Has.l0 k a l (l.length : Int) (i : Int)) (n := l.length) (res := fun i => decide (a ∈ l.drop i))
    (ev_suc 0 fun k _ => by
      simp only [spec_l1Has.l0]
      rw [if_neg (by omega), List.drop_of_length_le (Nat.le_refl _)]
      rfl)
    (fun i hi K hK => ev_suc K fun k hk => by
      simp only [spec_l1Has.l0]
      rw [if_pos (by omega), if_pos (by omega), if_pos (by omega), rd_nat l i hi, List.drop_eq_getElem_cons hi]
      by_cases h1 : l[i] = a
      · rw [if_pos h1, h1]; simp
      · rw [if_neg h1, w64s (by omega), hK k hk]
        have h2 : ¬ a = l[i] := fun h => h1 h.symm
        exact congrArg some (decide_eq_decide.2 (by rw [List.mem_cons]; exact ⟨.inr, fun h => h.resolve_left h2⟩))) 0 (Nat.zero_le _)
  exact h
theorem slIndex_ev (l : List Int) (hl : l.length ≤ 1048576) (a : Int) : ∃ r : Int, (∃ K, ∀ k, K ≤ k → slices_Index_int_int.f k l a = some r) ∧ (0 ≤ r ↔ a ∈ l) ∧ r < l.length := by
  have key : ∀ d i, i + d = l.length → ∃ r : Int, (∃ K, ∀ k, K ≤ k → slices_Index_int_int.l0 k l a (l.length : Int) (i : Int) = some r) ∧ (0 ≤ r ↔ a ∈ l.drop i) ∧ (r < l.length) := by
    intro d
    induction d with
    | zero =>
      intro i hi
      refine ⟨-1, ev_suc 0 fun k _ => ?_, ?_, by omega⟩
      · simp only [slices_Index_int_int.l0]
        rw [if_neg (by omega)]
      · rw [List.drop_of_length_le (by omega)]; simp
    | succ d ih =>
      intro i hi
      have hlt : i < l.length := by omega
      by_cases h1 : a = l[i]
      · refine ⟨(i : Int), ev_suc 0 fun k _ => ?_, ?_, by omega⟩
        · simp only [slices_Index_int_int.l0]
          rw [if_pos (by omega), if_pos (by omega), if_pos (by omega), rd_nat l i hlt, if_pos h1]
        · rw [List.drop_eq_getElem_cons hlt, ← h1]
          simp
      · obtain ⟨r, ⟨K, hK⟩, h2, h3⟩ := ih (i + 1) (by omega)
        refine ⟨r, ev_suc K fun k hk => ?_, ?_, h3⟩
        · simp only [slices_Index_int_int.l0]
          rw [if_pos (by omega), if_pos (by omega), if_pos (by omega), rd_nat l i hlt, if_neg h1, w64s (by omega)]
          exact hK k hk
        · rw [h2, List.drop_eq_getElem_cons hlt, List.mem_cons]
          simp [h1]
  obtain ⟨r, h1, h2, h3⟩ := key l.length 0 (by omega)
  exact ⟨r, h1, by simpa using h2, h3⟩
theorem slContains_ev (l : List Int) (hl : l.length ≤ 1048576) (a : Int) : ∃ K, ∀ k, K ≤ k → slices_Contains_int_int.f k l a = some (decide (a ∈ l)) := by
  obtain ⟨r, ⟨K, h1⟩, h2, h3⟩ := slIndex_ev l hl a
  refine ⟨K, fun k hk => ?_⟩
  unfold slices_Contains_int_int.f
  rw [h1 k hk]
  simp only [Option.bind_some]
  congr 1
  exact decide_eq_decide.2 (by rw [← h2])
/-- Both take the same shovel for each truck. -/
theorem firstCome_both (l : List (List Int)) (hl : l.length ≤ 1048576) (hx : ∀ x ∈ l, x.length = l.length) : ∃ g : List Int, (∃ K, ∀ k, K ≤ k → spec_maFirst.f k l = some g) ∧ (∃ K, ∀ k, K ≤ k → impl_firstComeMatch.f k l = some g) ∧ g.length = l.length := by
  have key : ∀ d i, i + d = l.length → ∀ out : List Int, out.length = i → ∃ g : List Int, (∃ K, ∀ k, K ≤ k → spec_maFirst.l0 k out l (l.length : Int) (i : Int) = some g) ∧ (∃ K, ∀ k, K ≤ k → impl_firstComeMatch.l0 k out l (l.length : Int) (i : Int) = some g) ∧ g.length = l.length := by
    intro d
    induction d with
    | zero =>
      intro i hi out ho
      refine ⟨out, ev_suc 0 fun k _ => ?_, ev_suc 0 fun k _ => ?_, by omega⟩
      · simp only [spec_maFirst.l0]; rw [if_neg (by omega)]
      · simp only [impl_firstComeMatch.l0]; rw [if_neg (by omega)]
    | succ d ih =>
      intro i hi out ho
      have hlt : i < l.length := by omega
      have hlen : l[i].length = l.length := hx _ (List.getElem_mem hlt)
      have inner : ∀ e j, j + e = l.length → ∀ best : Int, best < l.length → ∃ g : List Int, (∃ K, ∀ k, K ≤ k → spec_maFirst.l1 k out l[i] best l (l.length : Int) (i : Int) l[i] (l[i].length : Int) (j : Int) = some g) ∧ (∃ K, ∀ k, K ≤ k → impl_firstComeMatch.l1 k out l[i] best l (l.length : Int) (i : Int) l[i] (l[i].length : Int) (j : Int) = some g) ∧ g.length = l.length := by
        intro e
        induction e with
        | zero =>
          intro j hj best hb
          obtain ⟨g, ⟨K1, h1⟩, ⟨K2, h2⟩, h3⟩ := ih (i + 1) (by omega) (out ++ [best]) (by rw [List.length_append, List.length_singleton, ho])
          refine ⟨g, ev_suc K1 fun k hk => ?_, ev_suc K2 fun k hk => ?_, h3⟩
          · simp only [spec_maFirst.l1]
            rw [if_neg (by omega), if_pos (by omega), w64s (by omega)]
            exact h1 k hk
          · simp only [impl_firstComeMatch.l1]
            rw [if_neg (by omega), if_pos (by omega), w64s (by omega)]
            exact h2 k hk
        | succ e ihe =>
          intro j hj best hb
          have hjl : j < l[i].length := by omega
          obtain ⟨KH, hH⟩ := l1Has_ev out (by omega) (j : Int)
          obtain ⟨KC, hC⟩ := slContains_ev out (by omega) (j : Int)
          obtain ⟨g0, ⟨K1, h1⟩, ⟨K2, h2⟩, h3⟩ := ihe (j + 1) (by omega) best hb
          obtain ⟨g1, ⟨K3, h4⟩, ⟨K4, h5⟩, h6⟩ := ihe (j + 1) (by omega) (j : Int) (by omega)
          by_cases c1 : (j : Int) ∈ out
          · refine ⟨g0, ev_suc (K1 + KH) fun k hk => ?_, ev_suc (K2 + KC) fun k hk => ?_, h3⟩
            · simp only [spec_maFirst.l1]
              rw [if_pos (by omega), if_pos (by omega), if_pos (by omega), hH k (by omega)]
              simp only [Option.bind_some]
              rw [if_pos (decide_eq_true c1), w64s (by omega)]
              exact h1 k (by omega)
            · simp only [impl_firstComeMatch.l1]
              rw [if_pos (by omega), if_pos (by omega), if_pos (by omega), hC k (by omega)]
              simp only [Option.bind_some]
              rw [if_pos (decide_eq_true c1), w64s (by omega)]
              exact h2 k (by omega)
          · by_cases c2 : best < 0
            · refine ⟨g1, ev_suc (K3 + KH) fun k hk => ?_, ev_suc (K4 + KC) fun k hk => ?_, h6⟩
              · simp only [spec_maFirst.l1]
                rw [if_pos (by omega), if_pos (by omega), if_pos (by omega), hH k (by omega)]
                simp only [Option.bind_some]
                rw [if_neg (by simp [c1]), if_pos c2, w64s (by omega)]
                exact h4 k (by omega)
              · simp only [impl_firstComeMatch.l1]
                rw [if_pos (by omega), if_pos (by omega), if_pos (by omega), hC k (by omega)]
                simp only [Option.bind_some]
                rw [if_neg (by simp [c1]), if_pos c2, w64s (by omega)]
                exact h5 k (by omega)
            · by_cases c3 : rd l[i] (j : Int) < rd l[i] best
              · refine ⟨g1, ev_suc (K3 + KH) fun k hk => ?_, ev_suc (K4 + KC) fun k hk => ?_, h6⟩
                · simp only [spec_maFirst.l1]
                  rw [if_pos (by omega), if_pos (by omega), if_pos (by omega), hH k (by omega)]
                  simp only [Option.bind_some]
                  rw [if_neg (by simp [c1]), if_neg c2, if_pos (by omega), if_pos (by omega), if_pos c3, w64s (by omega)]
                  exact h4 k (by omega)
                · simp only [impl_firstComeMatch.l1]
                  rw [if_pos (by omega), if_pos (by omega), if_pos (by omega), hC k (by omega)]
                  simp only [Option.bind_some]
                  rw [if_neg (by simp [c1]), if_neg c2, if_pos (by omega), if_pos (by omega), if_pos c3, w64s (by omega)]
                  exact h5 k (by omega)
              · refine ⟨g0, ev_suc (K1 + KH) fun k hk => ?_, ev_suc (K2 + KC) fun k hk => ?_, h3⟩
                · simp only [spec_maFirst.l1]
                  rw [if_pos (by omega), if_pos (by omega), if_pos (by omega), hH k (by omega)]
                  simp only [Option.bind_some]
                  rw [if_neg (by simp [c1]), if_neg c2, if_pos (by omega), if_pos (by omega), if_neg c3, w64s (by omega)]
                  exact h1 k (by omega)
                · simp only [impl_firstComeMatch.l1]
                  rw [if_pos (by omega), if_pos (by omega), if_pos (by omega), hC k (by omega)]
                  simp only [Option.bind_some]
                  rw [if_neg (by simp [c1]), if_neg c2, if_pos (by omega), if_pos (by omega), if_neg c3, w64s (by omega)]
                  exact h2 k (by omega)
      obtain ⟨g, ⟨K1, h1⟩, ⟨K2, h2⟩, h3⟩ := inner l.length 0 (by omega) (-1) (by omega)
      refine ⟨g, ev_suc K1 fun k hk => ?_, ev_suc K2 fun k hk => ?_, h3⟩
      · simp only [spec_maFirst.l0]
        rw [if_pos (by omega), if_pos (by omega), if_pos (by omega), rdLL_nat l i hlt]
        exact h1 k hk
      · simp only [impl_firstComeMatch.l0]
        rw [if_pos (by omega), if_pos (by omega), if_pos (by omega), rdLL_nat l i hlt]
        exact h2 k hk
  exact key l.length 0 (by omega) [] rfl
/-- All matches that begin with a list, in lexicographic order. -/
def allFrom (n : Nat) : Nat → List Int → List (List Int)
  | 0, p => [p]
  | d + 1, p => (List.range n).flatMap fun (j : Nat) => if (j : Int) ∈ p then [] else allFrom n d (p ++ [(j : Int)])
theorem flatMap_le {α β : Type} (g : α → List β) (B : Nat) : ∀ l : List α, (∀ x ∈ l, (g x).length ≤ B) → (l.flatMap g).length ≤ l.length * B := by
  intro l
  induction l with
  | nil => intro _; simp
  | cons x l ih =>
    intro h
    have h1 := h x (List.mem_cons_self)
    have h2 := ih (fun y hy => h y (List.mem_cons_of_mem _ hy))
    rw [List.flatMap_cons, List.length_append, List.length_cons, Nat.add_mul, Nat.one_mul]
    omega
theorem allFrom_len (n : Nat) (hn : n ≤ 7) : ∀ d p, (allFrom n d p).length ≤ 7 ^ d := by
  intro d
  induction d with
  | zero => intro p; simp [allFrom]
  | succ d ih =>
    intro p
    have h := flatMap_le (fun (j : Nat) => if (j : Int) ∈ p then [] else allFrom n d (p ++ [(j : Int)])) (7 ^ d) (List.range n) (fun j _ => by
      by_cases g : (j : Int) ∈ p
      · rw [if_pos g]; simp
      · rw [if_neg g]; exact ih _)
    rw [List.length_range] at h
    simp only [allFrom]
    rw [Nat.pow_succ, Nat.mul_comm]
    exact Nat.le_trans h (Nat.mul_le_mul_right _ hn)
structure Part (n : Nat) (p : List Int) : Prop where
  nd : p.Nodup
  lt : ∀ x ∈ p, 0 ≤ x ∧ x < (n : Int)
theorem Part.snoc {n : Nat} {p : List Int} (h : Part n p) {j : Nat} (hj : j < n) (hp : ¬ (j : Int) ∈ p) : Part n (p ++ [(j : Int)]) := by
  refine ⟨?_, fun x hx => ?_⟩
  · rw [List.nodup_append]
    refine ⟨h.nd, by simp, fun a ha b hb => ?_⟩
    rw [List.mem_singleton] at hb
    subst hb
    exact fun e => hp (e ▸ ha)
  · rcases List.mem_append.1 hx with hx | hx
    · exact h.lt x hx
    · rw [List.mem_singleton] at hx
      omega
theorem allFrom_mem (n : Nat) : ∀ d p, p.length + d = n → Part n p → ∀ m ∈ allFrom n d p, m.length = n ∧ Part n m := by
  intro d
  induction d with
  | zero =>
    intro p hp h m hm
    simp only [allFrom, List.mem_singleton] at hm
    subst hm
    exact ⟨by omega, h⟩
  | succ d ih =>
    intro p hp h m hm
    simp only [allFrom] at hm
    obtain ⟨j, hj, hm⟩ := List.mem_flatMap.1 hm
    by_cases g : (j : Int) ∈ p
    · rw [if_pos g] at hm; cases hm
    · rw [if_neg g] at hm
      exact ih _ (by rw [List.length_append, List.length_singleton]; omega) (h.snoc (List.mem_range.1 hj) g) m hm
theorem allFrom_all (n : Nat) : ∀ d p m, p.length + d = n → m.length = n → Part n m → m.take p.length = p → m ∈ allFrom n d p := by
  intro d
  induction d with
  | zero =>
    intro p m hp hl h ht
    rw [List.take_of_length_le (by omega)] at ht
    simp only [allFrom, List.mem_singleton]
    exact ht
  | succ d ih =>
    intro p m hp hl h ht
    have hlt : p.length < m.length := by omega
    have hx := h.lt m[p.length] (List.getElem_mem hlt)
    obtain ⟨j, hj⟩ := Int.eq_ofNat_of_zero_le hx.1
    simp only [allFrom]
    refine List.mem_flatMap.2 ⟨j, List.mem_range.2 (by omega), ?_⟩
    have htk : m.take (p.length + 1) = p ++ [(j : Int)] := by rw [List.take_succ_eq_append_getElem hlt, ht, ← hj]
    have hnp : ¬ (j : Int) ∈ p := by
      intro hm
      have h1 : (p ++ [(j : Int)]).Nodup := by rw [← htk]; exact (List.take_sublist _ _).nodup h.nd
      rw [List.nodup_append] at h1
      exact h1.2.2 _ hm _ (by simp) rfl
    rw [if_neg hnp]
    exact ih _ _ (by rw [List.length_append, List.length_singleton]; omega) hl h (by rw [List.length_append, List.length_singleton]; exact htk)
theorem nodup_len : ∀ (l p : List Int), l.Nodup → (∀ x ∈ l, x ∈ p) → l.length ≤ p.length := by
  intro l
  induction l with
  | nil => intro p _ _; simp
  | cons x l ih =>
    intro p h1 h2
    rw [List.nodup_cons] at h1
    have hx := h2 x (List.mem_cons_self)
    have h3 := ih (p.erase x) h1.2 (fun y hy => (List.mem_erase_of_ne (fun e : y = x => h1.1 (by rw [← e]; exact hy))).2 (h2 y (List.mem_cons_of_mem _ hy)))
    rw [List.length_erase_of_mem hx] at h3
    have := List.length_pos_of_mem hx
    rw [List.length_cons]
    omega
theorem part_more {n : Nat} {p : List Int} (h : Part n p) (hp : p.length < n) : ∃ j, j < n ∧ ¬ (j : Int) ∈ p := by
  apply Classical.byContradiction
  intro hn
  have hall : ∀ j, j < n → (j : Int) ∈ p := fun j hj => Classical.byContradiction fun g => hn ⟨j, hj, g⟩
  have hsub : ∀ x ∈ (List.range n).map (fun (j : Nat) => (j : Int)), x ∈ p := by
    intro x hx
    obtain ⟨j, hj, rfl⟩ := List.mem_map.1 hx
    exact hall j (List.mem_range.1 hj)
  have hnd : ((List.range n).map (fun (j : Nat) => (j : Int))).Nodup := by
    rw [List.nodup_iff_pairwise_ne, List.pairwise_map]
    exact List.Pairwise.imp (fun h e => h (by omega)) (List.nodup_iff_pairwise_ne.1 List.nodup_range)
  have hle := nodup_len _ _ hnd hsub
  simp at hle
  omega
theorem allFrom_some (n : Nat) : ∀ d p, p.length + d = n → Part n p → allFrom n d p ≠ [] := by
  intro d
  induction d with
  | zero => intro p _ _; simp [allFrom]
  | succ d ih =>
    intro p hp h
    obtain ⟨j, hj, hjp⟩ := part_more h (by omega)
    have h1 := ih (p ++ [(j : Int)]) (by rw [List.length_append, List.length_singleton]; omega) (h.snoc hj hjp)
    intro hn
    obtain ⟨m, hm⟩ := List.exists_mem_of_ne_nil _ h1
    have : m ∈ allFrom n (d + 1) p := by
      simp only [allFrom]
      exact List.mem_flatMap.2 ⟨j, List.mem_range.2 hj, by rw [if_neg hjp]; exact hm⟩
    rw [hn] at this
    cases this
theorem l1Own_eq (l : List Int) (hl : l.length ≤ 1048576) : spec_l1Own.f l = some l := by
  unfold spec_l1Own.f
  simp only [Option.bind_some, List.length_nil, List.nil_append]
  rw [if_pos (by omega)]
theorem maAll_ev (n : Nat) (hn : n ≤ 7) : ∀ d p, p.length + d = n → ∃ K, ∀ k, K ≤ k → spec_maAll.f k p (n : Int) = some (allFrom n d p) := by
  intro d
  induction d with
  | zero =>
    intro p hp
    refine ev_suc 0 fun k _ => ?_
    simp only [spec_maAll.f]
    rw [if_pos (by omega), l1Own_eq p (by omega)]
    rfl
  | succ d ih =>
    intro p hp
    have hp7 : 7 ^ d ≤ 823543 := Nat.le_trans (Nat.pow_le_pow_right (by omega) (show d ≤ 7 by omega)) (by decide)
    have hlen : ∀ i, i ≤ n → (((List.range n).take i).flatMap fun (j : Nat) => if (j : Int) ∈ p then [] else allFrom n d (p ++ [(j : Int)])).length ≤ 10000000 := by
      intro i hi
      have h := flatMap_le (fun (j : Nat) => if (j : Int) ∈ p then [] else allFrom n d (p ++ [(j : Int)])) 823543 ((List.range n).take i) (fun j _ => by
        by_cases g : (j : Int) ∈ p
        · rw [if_pos g]; simp
        · rw [if_neg g]; exact Nat.le_trans (allFrom_len n hn d _) hp7)
      rw [List.length_take, List.length_range] at h
      have := Nat.mul_le_mul_right 823543 (show min i n ≤ 7 by omega)
      omega
    have h := ev_loop (F := fun k i => spec_maAll.l0 k p (n : Int) (((List.range n).take i).flatMap fun (j : Nat) => if (j : Int) ∈ p then [] else allFrom n d (p ++ [(j : Int)])) (i : Int)) (n := n) (res := fun _ => allFrom n (d + 1) p)
      (ev_suc 0 fun k _ => by
        simp only [spec_maAll.l0]
        rw [if_neg (by omega), List.take_of_length_le (by simp)]
        rfl)
      (fun i hi K hK => by
        obtain ⟨K1, h1⟩ := l1Has_ev p (by omega) (i : Int)
        have htk : (List.range n).take (i + 1) = (List.range n).take i ++ [i] := by rw [List.take_succ_eq_append_getElem (by simpa using hi)]; simp
        rw [htk, List.flatMap_append, List.flatMap_cons, List.flatMap_nil, List.append_nil] at hK
        by_cases g : (i : Int) ∈ p
        · rw [if_pos g, List.append_nil] at hK
          refine ev_suc (K + K1) fun k hk => ?_
          simp only [spec_maAll.l0]
          rw [if_pos (by omega), h1 k (by omega)]
          simp only [Option.bind_some]
          rw [if_pos (decide_eq_true g), w64s (by omega)]
          exact hK k (by omega)
        · rw [if_neg g] at hK
          obtain ⟨K2, h2⟩ := ih (p ++ [(i : Int)]) (by rw [List.length_append, List.length_singleton]; omega)
          have l1 := hlen i (by omega)
          have l2 := Nat.le_trans (allFrom_len n hn d (p ++ [(i : Int)])) hp7
          refine ev_suc (K + K1 + K2) fun k hk => ?_
          simp only [spec_maAll.l0]
          rw [if_pos (by omega), h1 k (by omega)]
          simp only [Option.bind_some]
          rw [if_neg (by simpa using g), l1Own_eq p (by omega)]
          simp only [Option.bind_some]
          rw [if_pos (by omega), h2 k (by omega)]
          simp only [Option.bind_some]
          rw [if_pos (by omega), w64s (by omega)]
          exact hK k (by omega)) 0 (Nat.zero_le _)
    obtain ⟨K, h⟩ := h
    refine ev_suc K fun k hk => ?_
    simp only [spec_maAll.f]
    rw [if_neg (by omega)]
    have := h k hk
    simpa using this
def foldO {σ α : Type} (step : σ → α → Option σ) : σ → List α → Option σ
  | s, [] => some s
  | s, a :: l => (step s a).bind fun s' => foldO step s' l
theorem foldO_append {σ α : Type} (step : σ → α → Option σ) : ∀ (l l2 : List α) (s : σ), foldO step s (l ++ l2) = (foldO step s l).bind fun s' => foldO step s' l2 := by
  intro l
  induction l with
  | nil => intro l2 s; rfl
  | cons a l ih =>
    intro l2 s
    simp only [List.cons_append, foldO]
    cases step s a with
    | none => rfl
    | some s1 => exact ih l2 s1
/-- The filling calls the function for all matches, in their order. -/
theorem fill_all {σ : Type} (step : σ → List Int → Option σ) (n : Nat) : ∀ (d : Nat) (M : List Int) (U : List Bool) (p : List Int), M.length = n → U.length = n → p.length + d = n → M.take p.length = p → (∀ j, j < n → U.getD j false = decide ((j : Int) ∈ p)) →
    ∃ M' : List Int, M'.length = n ∧ M'.take p.length = p ∧ ∀ s, fillF step n d M U s = (foldO step s (allFrom n d p)).bind fun s' => some (M', U, s') := by
  intro d
  induction d with
  | zero =>
    intro M U p hM hU hp ht hu
    have hMp : M = p := by rw [← ht, List.take_of_length_le (by omega)]
    refine ⟨M, hM, ht, fun s => ?_⟩
    simp only [fillF, allFrom, foldO]
    rw [hMp]
    cases step s p <;> rfl
  | succ d ih =>
    intro M U p hM hU hp ht hu
    have key : ∀ e, e ≤ n → ∀ M1 : List Int, M1.length = n → M1.take p.length = p → ∃ M' : List Int, M'.length = n ∧ M'.take p.length = p ∧ ∀ s, fillK (fillF step n d) p.length n e M1 U s = (foldO step s (((List.range n).drop (n - e)).flatMap fun (j : Nat) => if (j : Int) ∈ p then [] else allFrom n d (p ++ [(j : Int)]))).bind fun s' => some (M', U, s') := by
      intro e
      induction e with
      | zero =>
        intro _ M1 h1 h2
        refine ⟨M1, h1, h2, fun s => ?_⟩
        rw [List.drop_of_length_le (by simp)]
        rfl
      | succ e ihe =>
        intro he M1 h1 h2
        have hlt : n - (e + 1) < (List.range n).length := by simp; omega
        rw [List.drop_eq_getElem_cons hlt, List.flatMap_cons, List.getElem_range, show n - (e + 1) + 1 = n - e from by omega]
        obtain ⟨kk, hkk⟩ : ∃ kk, kk = n - (e + 1) := ⟨_, rfl⟩
        have hu1 := hu kk (by omega)
        simp only [fillK]
        rw [← hkk]
        by_cases g : (kk : Int) ∈ p
        · rw [if_pos g, List.nil_append]
          have e1 : U.getD kk false = true := by rw [hu1]; exact decide_eq_true g
          simp only [e1, if_true]
          exact ihe (by omega) M1 h1 h2
        · rw [if_neg g]
          have e1 : U.getD kk false = false := by rw [hu1]; exact decide_eq_false g
          simp only [e1, Bool.false_eq_true, if_false]
          have hset : (M1.set p.length (kk : Int)).take (p ++ [(kk : Int)]).length = p ++ [(kk : Int)] := by
            rw [List.length_append, List.length_singleton, List.take_succ_eq_append_getElem (by rw [List.length_set]; omega), List.getElem_set_self, List.take_set_of_le (Nat.le_refl _), h2]
          obtain ⟨M2, m1, m2, m3⟩ := ih (M1.set p.length (kk : Int)) (U.set kk true) (p ++ [(kk : Int)]) (by rw [List.length_set]; exact h1) (by rw [List.length_set]; exact hU) (by rw [List.length_append, List.length_singleton]; omega) hset (fun j hj => by
            rw [List.getD_eq_getElem?_getD, List.getElem?_set]
            by_cases e1 : kk = j
            · subst e1
              rw [if_pos rfl, if_pos (by omega)]
              simp
            · rw [if_neg e1, ← List.getD_eq_getElem?_getD, hu j hj]
              refine decide_eq_decide.2 ?_
              rw [List.mem_append, List.mem_singleton]
              exact ⟨.inl, fun h => h.resolve_right (by omega)⟩)
          have m2' : M2.take p.length = p := by
            have h5 := congrArg (List.take p.length) m2
            rw [List.take_take, List.length_append, List.length_singleton, Nat.min_eq_left (by omega)] at h5
            rw [h5]
            simp
          have hback : (U.set kk true).set kk false = U := by
            rw [List.set_set]
            apply List.ext_getElem?
            intro i
            rw [List.getElem?_set]
            by_cases e2 : kk = i
            · subst e2
              have hkU : kk < U.length := by omega
              have h6 := e1
              rw [List.getD_eq_getElem?_getD, List.getElem?_eq_getElem hkU] at h6
              rw [if_pos rfl, if_pos hkU, List.getElem?_eq_getElem hkU]
              exact congrArg some h6.symm
            · rw [if_neg e2]
          obtain ⟨M3, n1, n2, n3⟩ := ihe (by omega) M2 m1 m2'
          refine ⟨M3, n1, n2, fun s => ?_⟩
          rw [m3 s, foldO_append]
          cases foldO step s (allFrom n d (p ++ [(kk : Int)])) with
          | none => rfl
          | some s1 =>
            simp only [Option.bind_some]
            rw [hback]
            exact n3 s1
    obtain ⟨M', h1, h2, h3⟩ := key n (Nat.le_refl _) M hM ht
    refine ⟨M', h1, h2, fun s => ?_⟩
    have h4 := h3 s
    rw [Nat.sub_self, List.drop_zero] at h4
    simp only [fillF, allFrom]
    rw [show n - (d + 1) = p.length from by omega]
    exact h4
theorem fill_start {σ : Type} (step : σ → List Int → Option σ) (n : Nat) (s : σ) : ∃ M' : List Int, fillF step n n (List.replicate n 0) (List.replicate n false) s = (foldO step s (allFrom n n [])).bind fun s' => some (M', List.replicate n false, s') := by
  obtain ⟨M', _, _, h⟩ := fill_all step n n (List.replicate n 0) (List.replicate n false) [] (by simp) (by simp) (by simp) (by simp) (fun j hj => by simp [List.getD_eq_getElem?_getD, List.getElem?_replicate, hj])
  exact ⟨M', h s⟩
/-- A fold whose steps come to their answers comes to its own. -/
theorem foldO_ev {σ α : Type} (step : Nat → σ → α → Option σ) (tt : σ → α → σ) (ok : σ → Prop) : ∀ (l : List α), (∀ a ∈ l, ∀ s, ok s → ok (tt s a) ∧ ∃ K, ∀ k, K ≤ k → step k s a = some (tt s a)) → ∀ s, ok s → ok (l.foldl tt s) ∧ ∃ K, ∀ k, K ≤ k → foldO (step k) s l = some (l.foldl tt s) := by
  intro l
  induction l with
  | nil => intro _ s hs; exact ⟨hs, 0, fun k _ => rfl⟩
  | cons a l ih =>
    intro h s hs
    obtain ⟨h1, K1, h2⟩ := h a (List.mem_cons_self) s hs
    obtain ⟨h3, K2, h4⟩ := ih (fun b hb => h b (List.mem_cons_of_mem _ hb)) (tt s a) h1
    refine ⟨h3, K1 + K2, fun k hk => ?_⟩
    simp only [foldO, List.foldl_cons]
    rw [h2 k (by omega)]
    exact h4 k (by omega)
theorem fits_of {c : List (List Int)} (hc : costsOk c = true) {m : List Int} (hl : m.length = c.length) (hp : Part c.length m) : Fits c m := by
  obtain ⟨q1, q2, q3⟩ := (costsOk_iff c).1 hc
  exact ⟨hl, q3, q1, hp.lt⟩
/-- The cheaper one, the first of two alike. -/
def better (c : List (List Int)) (b m : List Int) : List Int := if b.length = 0 then m else if costTo c m m.length < costTo c b b.length then m else b
theorem cheapest_both {c : List (List Int)} (hc : costsOk c = true) : ∃ g : List Int, (∃ K, ∀ k, K ≤ k → spec_maCheapest.f k c = some g) ∧ (∃ K, ∀ k, K ≤ k → impl_cheapestMatch.f k c = some (g, costTo c g g.length)) ∧ g.length = c.length ∧ Part c.length g ∧ ∀ m, m.length = c.length → Part c.length m → costTo c g g.length ≤ costTo c m m.length := by
  obtain ⟨q1, q2, q3⟩ := (costsOk_iff c).1 hc
  have hP0 : Part c.length [] := ⟨by simp, fun x hx => by cases hx⟩
  obtain ⟨all, hall⟩ : ∃ all, all = allFrom c.length c.length [] := ⟨_, rfl⟩
  have hmem : ∀ m ∈ all, m.length = c.length ∧ Part c.length m := by rw [hall]; exact allFrom_mem c.length c.length [] (by simp) hP0
  have hne : all ≠ [] := by rw [hall]; exact allFrom_some c.length c.length [] (by simp) hP0
  have hlenAll : all.length ≤ 823543 := by rw [hall]; exact Nat.le_trans (allFrom_len c.length q3 c.length []) (Nat.le_trans (Nat.pow_le_pow_right (by omega) q3) (by decide))
  obtain ⟨Ka, ha⟩ := maAll_ev c.length q3 c.length [] (by simp)
  rw [← hall] at ha
  have hfit : ∀ m ∈ all, Fits c m := fun m hm => fits_of hc (hmem m hm).1 (hmem m hm).2
  -- the fold of the reference
  have hgood : ∀ (l : List (List Int)), (∀ m ∈ l, m ∈ all) → ∀ b, (b = [] ∨ b ∈ all) → (l.foldl (better c) b = [] ∧ l = [] ∨ l.foldl (better c) b = b ∨ l.foldl (better c) b ∈ all) ∧ (l.foldl (better c) b = [] → b = [] ∧ l = []) ∧ (b ∈ all → costTo c (l.foldl (better c) b) (l.foldl (better c) b).length ≤ costTo c b b.length) ∧ ∀ m ∈ l, costTo c (l.foldl (better c) b) (l.foldl (better c) b).length ≤ costTo c m m.length := by
    intro l
    induction l with
    | nil => intro _ b hb; exact ⟨.inr (.inl rfl), fun h => ⟨h, rfl⟩, fun _ => Int.le_refl _, fun m hm => by cases hm⟩
    | cons m l ih =>
      intro hl b hb
      have hm := hl m (List.mem_cons_self)
      have hmlen : m.length ≠ 0 := by have := (hmem m hm).1; omega
      have hbm : better c b m ∈ all := by
        unfold better
        split
        · exact hm
        · split
          · exact hm
          · rcases hb with rfl | hb
            · simp at *
            · exact hb
      have hle1 : b ∈ all → costTo c (better c b m) (better c b m).length ≤ costTo c b b.length := fun hba => by
        unfold better
        rw [if_neg (by have := (hmem b hba).1; omega)]
        split <;> omega
      have hle2 : costTo c (better c b m) (better c b m).length ≤ costTo c m m.length := by
        unfold better
        split
        · exact Int.le_refl _
        · split <;> omega
      obtain ⟨i1, i2, i3, i4⟩ := ih (fun x hx => hl x (List.mem_cons_of_mem _ hx)) (better c b m) (.inr hbm)
      have i3' := i3 hbm
      rw [List.foldl_cons]
      refine ⟨.inr (.inr ?_), fun h => ?_, fun hba => Int.le_trans i3' (hle1 hba), fun x hx => ?_⟩
      · rcases i1 with ⟨h, _⟩ | h | h
        · have := (i2 h).1
          rw [this] at hbm
          have := (hmem [] hbm).1
          simp at this; omega
        · rw [h]; exact hbm
        · exact h
      · have := (i2 h).1
        rw [this] at hbm
        have := (hmem [] hbm).1
        simp at this; omega
      · rcases List.mem_cons.1 hx with rfl | hx
        · exact Int.le_trans i3' hle2
        · exact i4 x hx
  obtain ⟨g, hg⟩ : ∃ g, g = all.foldl (better c) [] := ⟨_, rfl⟩
  obtain ⟨i1, i2, i3, i4⟩ := hgood all (fun m hm => hm) [] (.inl rfl)
  rw [← hg] at i1 i2 i3 i4
  have hgne : g ≠ [] := fun h => hne (i2 h).2
  have hgall : g ∈ all := by
    rcases i1 with ⟨h, _⟩ | h | h
    · exact absurd h hgne
    · exact absurd h hgne
    · exact h
  have hgm := hmem g hgall
  refine ⟨g, ?_, ?_, hgm.1, hgm.2, fun m h1 h2 => i4 m (by rw [hall]; exact allFrom_all c.length c.length [] m (by simp) h1 h2 (by simp))⟩
  · have h := ev_loop (F := fun k i => spec_maCheapest.l0 k c ((all.take i).foldl (better c) []) all (all.length : Int) (i : Int)) (n := all.length) (res := fun _ => g)
      (ev_suc 0 fun k _ => by simp only [spec_maCheapest.l0]; rw [if_neg (by omega), List.take_of_length_le (Nat.le_refl _), hg])
      (fun i hi K hK => by
        have hm : all[i] ∈ all := List.getElem_mem hi
        have hstep : (all.take (i + 1)).foldl (better c) [] = better c ((all.take i).foldl (better c) []) all[i] := by rw [List.take_succ_eq_append_getElem hi, List.foldl_append]; rfl
        rw [hstep] at hK
        obtain ⟨b, hb⟩ : ∃ b, b = (all.take i).foldl (better c) [] := ⟨_, rfl⟩
        rw [← hb] at hK ⊢
        have hbb : b = [] ∨ b ∈ all := by
          obtain ⟨j1, _⟩ := hgood (all.take i) (fun m hm => List.mem_of_mem_take hm) [] (.inl rfl)
          rw [← hb] at j1
          rcases j1 with ⟨h, _⟩ | h | h
          · exact .inl h
          · exact .inl h
          · exact .inr h
        by_cases g0 : b.length = 0
        · have : better c b all[i] = all[i] := by unfold better; rw [if_pos g0]
          rw [this] at hK
          refine ev_suc K fun k hk => ?_
          simp only [spec_maCheapest.l0]
          rw [if_pos (by omega), if_pos (by omega), if_pos (by omega), if_pos (by omega), rdLL_nat all i hi, w64s (by omega)]
          exact hK k hk
        · have hba : b ∈ all := hbb.resolve_left (fun e => g0 (by rw [e]; rfl))
          obtain ⟨⟨K1, h1⟩, _⟩ := maCost_ev (hfit _ hm)
          obtain ⟨⟨K2, h2⟩, _⟩ := maCost_ev (hfit _ hba)
          refine ev_suc (K + K1 + K2) fun k hk => ?_
          simp only [spec_maCheapest.l0]
          rw [if_pos (by omega), if_pos (by omega), if_pos (by omega), if_neg (by omega), rdLL_nat all i hi, h1 k (by omega)]
          simp only [Option.bind_some]
          rw [h2 k (by omega)]
          simp only [Option.bind_some]
          rw [w64s (by omega)]
          by_cases g1 : costTo c all[i] all[i].length < costTo c b b.length
          · have : better c b all[i] = all[i] := by unfold better; rw [if_neg g0, if_pos g1]
            rw [this] at hK
            rw [if_pos g1]
            exact hK k (by omega)
          · have : better c b all[i] = b := by unfold better; rw [if_neg g0, if_neg g1]
            rw [this] at hK
            rw [if_neg g1]
            exact hK k (by omega)) 0 (Nat.zero_le _)
    obtain ⟨K, h⟩ := h
    refine ⟨Ka + K, fun k hk => ?_⟩
    unfold spec_maCheapest.f
    rw [ha k (by omega)]
    simp only [Option.bind_some]
    have := h k (by omega)
    simpa using this
  · have hf := foldO_ev (fun k => impl_cheapestMatch.step k c) (fun s m => if s.2 < 0 then (m, costTo c m m.length) else if costTo c m m.length < s.2 then (m, costTo c m m.length) else s) (fun s => (s.1 = [] ∧ s.2 = -1) ∨ (s.1 ∈ all ∧ s.2 = costTo c s.1 s.1.length)) all (fun m hm s hs => by
      obtain ⟨_, K1, h1⟩ := maCost_ev (hfit m hm)
      refine ⟨?_, K1, fun k hk => ?_⟩
      · by_cases g0 : s.2 < 0
        · rw [if_pos g0]; exact .inr ⟨hm, rfl⟩
        · rw [if_neg g0]
          by_cases g1 : costTo c m m.length < s.2
          · rw [if_pos g1]; exact .inr ⟨hm, rfl⟩
          · rw [if_neg g1]; exact hs
      · unfold impl_cheapestMatch.step
        rw [h1 k hk]
        rfl) ([], -1) (.inl ⟨rfl, rfl⟩)
    obtain ⟨_, K, hK⟩ := hf
    -- both folds go side by side
    have hside : ∀ (l : List (List Int)), (∀ m ∈ l, m ∈ all) → ∀ (b : List Int) (s : List Int × Int), ((b = [] ∧ s = ([], -1)) ∨ (b ∈ all ∧ s = (b, costTo c b b.length))) → ((l.foldl (better c) b = [] ∧ l.foldl (fun s m => if s.2 < 0 then (m, costTo c m m.length) else if costTo c m m.length < s.2 then (m, costTo c m m.length) else s) s = ([], -1)) ∨ (l.foldl (better c) b ∈ all ∧ l.foldl (fun s m => if s.2 < 0 then (m, costTo c m m.length) else if costTo c m m.length < s.2 then (m, costTo c m m.length) else s) s = (l.foldl (better c) b, costTo c (l.foldl (better c) b) (l.foldl (better c) b).length))) := by
      intro l
      induction l with
      | nil => intro _ b s h; exact h
      | cons m l ih =>
        intro hl b s h
        have hm := hl m (List.mem_cons_self)
        rw [List.foldl_cons, List.foldl_cons]
        refine ih (fun x hx => hl x (List.mem_cons_of_mem _ hx)) _ _ (.inr ?_)
        rcases h with ⟨rfl, rfl⟩ | ⟨hb, rfl⟩
        · have e : better c [] m = m := by unfold better; exact if_pos rfl
          rw [e]
          exact ⟨hm, by simp⟩
        · have hp := (costTo_bounds (hfit b hb) b.length (Nat.le_refl _)).1
          have hbl : ¬ b.length = 0 := by have := (hmem b hb).1; omega
          simp only [better, if_neg hbl, if_neg (show ¬ costTo c b b.length < 0 by omega)]
          by_cases g1 : costTo c m m.length < costTo c b b.length
          · simp only [if_pos g1]; exact ⟨hm, trivial⟩
          · simp only [if_neg g1]; exact ⟨hb, trivial⟩
    have hs := hside all (fun m hm => hm) [] ([], -1) (.inl ⟨rfl, rfl⟩)
    rw [← hg] at hs
    have hs2 := hs.resolve_left (fun h => hgne h.1)
    refine ⟨K, fun k hk => ?_⟩
    unfold impl_cheapestMatch.f
    rw [if_pos (by omega)]
    obtain ⟨M', h⟩ := fill_start (impl_cheapestMatch.step k c) c.length ([], -1)
    rw [h, ← hall, hK k hk, hs2.2]
    rfl
theorem firstCome_part (l : List (List Int)) (hl : l.length ≤ 1048576) (hx : ∀ x ∈ l, x.length = l.length) : ∃ g : List Int, (∃ K, ∀ k, K ≤ k → spec_maFirst.f k l = some g) ∧ (∃ K, ∀ k, K ≤ k → impl_firstComeMatch.f k l = some g) ∧ g.length = l.length ∧ Part l.length g := by
  have key : ∀ d i, i + d = l.length → ∀ out : List Int, out.length = i → Part l.length out → ∃ g : List Int, (∃ K, ∀ k, K ≤ k → spec_maFirst.l0 k out l (l.length : Int) (i : Int) = some g) ∧ (∃ K, ∀ k, K ≤ k → impl_firstComeMatch.l0 k out l (l.length : Int) (i : Int) = some g) ∧ g.length = l.length ∧ Part l.length g := by
    intro d
    induction d with
    | zero =>
      intro i hi out ho hP
      refine ⟨out, ev_suc 0 fun k _ => ?_, ev_suc 0 fun k _ => ?_, by omega, hP⟩
      · simp only [spec_maFirst.l0]; rw [if_neg (by omega)]
      · simp only [impl_firstComeMatch.l0]; rw [if_neg (by omega)]
    | succ d ih =>
      intro i hi out ho hP
      have hlt : i < l.length := by omega
      have hlen : l[i].length = l.length := hx _ (List.getElem_mem hlt)
      have inner : ∀ e j, j + e = l.length → ∀ best : Int, best < l.length → ((best < 0 ∧ ∀ z, z < j → (z : Int) ∈ out) ∨ (0 ≤ best ∧ ¬ best ∈ out)) → ∃ g : List Int, (∃ K, ∀ k, K ≤ k → spec_maFirst.l1 k out l[i] best l (l.length : Int) (i : Int) l[i] (l[i].length : Int) (j : Int) = some g) ∧ (∃ K, ∀ k, K ≤ k → impl_firstComeMatch.l1 k out l[i] best l (l.length : Int) (i : Int) l[i] (l[i].length : Int) (j : Int) = some g) ∧ g.length = l.length ∧ Part l.length g := by
        intro e
        induction e with
        | zero =>
          intro j hj best hb hq
          have hq2 : 0 ≤ best ∧ ¬ best ∈ out := by
            rcases hq with ⟨_, hq⟩ | hq
            · obtain ⟨z, z1, z2⟩ := part_more hP (by omega)
              exact absurd (hq z (by omega)) z2
            · exact hq
          obtain ⟨b, hbn⟩ := Int.eq_ofNat_of_zero_le hq2.1
          have hP2 : Part l.length (out ++ [best]) := by rw [hbn] at hq2 hb ⊢; exact hP.snoc (by omega) hq2.2
          obtain ⟨g, ⟨K1, h1⟩, ⟨K2, h2⟩, h3⟩ := ih (i + 1) (by omega) (out ++ [best]) (by rw [List.length_append, List.length_singleton, ho]) hP2
          refine ⟨g, ev_suc K1 fun k hk => ?_, ev_suc K2 fun k hk => ?_, h3⟩
          · simp only [spec_maFirst.l1]
            rw [if_neg (by omega), if_pos (by omega), w64s (by omega)]
            exact h1 k hk
          · simp only [impl_firstComeMatch.l1]
            rw [if_neg (by omega), if_pos (by omega), w64s (by omega)]
            exact h2 k hk
        | succ e ihe =>
          intro j hj best hb hq
          have hjl : j < l[i].length := by omega
          obtain ⟨KH, hH⟩ := l1Has_ev out (by omega) (j : Int)
          obtain ⟨KC, hC⟩ := slContains_ev out (by omega) (j : Int)
          by_cases c1 : (j : Int) ∈ out
          · obtain ⟨g0, ⟨K1, h1⟩, ⟨K2, h2⟩, h3⟩ := ihe (j + 1) (by omega) best hb (by
              rcases hq with ⟨q1, q2⟩ | hq
              · exact .inl ⟨q1, fun z hz => by
                  rcases Nat.lt_or_ge z j with h | h
                  · exact q2 z h
                  · rw [show z = j from by omega]; exact c1⟩
              · exact .inr hq)
            refine ⟨g0, ev_suc (K1 + KH) fun k hk => ?_, ev_suc (K2 + KC) fun k hk => ?_, h3⟩
            · simp only [spec_maFirst.l1]
              rw [if_pos (by omega), if_pos (by omega), if_pos (by omega), hH k (by omega)]
              simp only [Option.bind_some]
              rw [if_pos (decide_eq_true c1), w64s (by omega)]
              exact h1 k (by omega)
            · simp only [impl_firstComeMatch.l1]
              rw [if_pos (by omega), if_pos (by omega), if_pos (by omega), hC k (by omega)]
              simp only [Option.bind_some]
              rw [if_pos (decide_eq_true c1), w64s (by omega)]
              exact h2 k (by omega)
          · by_cases c2 : best < 0
            · obtain ⟨g1, ⟨K3, h4⟩, ⟨K4, h5⟩, h6⟩ := ihe (j + 1) (by omega) (j : Int) (by omega) (.inr ⟨by omega, c1⟩)
              refine ⟨g1, ev_suc (K3 + KH) fun k hk => ?_, ev_suc (K4 + KC) fun k hk => ?_, h6⟩
              · simp only [spec_maFirst.l1]
                rw [if_pos (by omega), if_pos (by omega), if_pos (by omega), hH k (by omega)]
                simp only [Option.bind_some]
                rw [if_neg (by simp [c1]), if_pos c2, w64s (by omega)]
                exact h4 k (by omega)
              · simp only [impl_firstComeMatch.l1]
                rw [if_pos (by omega), if_pos (by omega), if_pos (by omega), hC k (by omega)]
                simp only [Option.bind_some]
                rw [if_neg (by simp [c1]), if_pos c2, w64s (by omega)]
                exact h5 k (by omega)
            · by_cases c3 : rd l[i] (j : Int) < rd l[i] best
              · obtain ⟨g1, ⟨K3, h4⟩, ⟨K4, h5⟩, h6⟩ := ihe (j + 1) (by omega) (j : Int) (by omega) (.inr ⟨by omega, c1⟩)
                refine ⟨g1, ev_suc (K3 + KH) fun k hk => ?_, ev_suc (K4 + KC) fun k hk => ?_, h6⟩
                · simp only [spec_maFirst.l1]
                  rw [if_pos (by omega), if_pos (by omega), if_pos (by omega), hH k (by omega)]
                  simp only [Option.bind_some]
                  rw [if_neg (by simp [c1]), if_neg c2, if_pos (by omega), if_pos (by omega), if_pos c3, w64s (by omega)]
                  exact h4 k (by omega)
                · simp only [impl_firstComeMatch.l1]
                  rw [if_pos (by omega), if_pos (by omega), if_pos (by omega), hC k (by omega)]
                  simp only [Option.bind_some]
                  rw [if_neg (by simp [c1]), if_neg c2, if_pos (by omega), if_pos (by omega), if_pos c3, w64s (by omega)]
                  exact h5 k (by omega)
              · obtain ⟨g0, ⟨K1, h1⟩, ⟨K2, h2⟩, h3⟩ := ihe (j + 1) (by omega) best hb (.inr (hq.resolve_left (fun h => c2 h.1)))
                refine ⟨g0, ev_suc (K1 + KH) fun k hk => ?_, ev_suc (K2 + KC) fun k hk => ?_, h3⟩
                · simp only [spec_maFirst.l1]
                  rw [if_pos (by omega), if_pos (by omega), if_pos (by omega), hH k (by omega)]
                  simp only [Option.bind_some]
                  rw [if_neg (by simp [c1]), if_neg c2, if_pos (by omega), if_pos (by omega), if_neg c3, w64s (by omega)]
                  exact h1 k (by omega)
                · simp only [impl_firstComeMatch.l1]
                  rw [if_pos (by omega), if_pos (by omega), if_pos (by omega), hC k (by omega)]
                  simp only [Option.bind_some]
                  rw [if_neg (by simp [c1]), if_neg c2, if_pos (by omega), if_pos (by omega), if_neg c3, w64s (by omega)]
                  exact h2 k (by omega)
      obtain ⟨g, ⟨K1, h1⟩, ⟨K2, h2⟩, h3⟩ := inner l.length 0 (by omega) (-1) (by omega) (.inl ⟨by omega, fun z hz => by omega⟩)
      refine ⟨g, ev_suc K1 fun k hk => ?_, ev_suc K2 fun k hk => ?_, h3⟩
      · simp only [spec_maFirst.l0]
        rw [if_pos (by omega), if_pos (by omega), if_pos (by omega), rdLL_nat l i hlt]
        exact h1 k hk
      · simp only [impl_firstComeMatch.l0]
        rw [if_pos (by omega), if_pos (by omega), if_pos (by omega), rdLL_nat l i hlt]
        exact h2 k hk
  exact key l.length 0 (by omega) [] rfl ⟨by simp, fun x hx => by cases hx⟩
theorem regret_both (c : List (List Int)) (hl : c.length ≤ 1048576) (hx : ∀ x ∈ c, x.length ≤ 1048576) : ∃ (x : Int) (b : Bool), (∃ K, ∀ k, K ≤ k → spec_RegretOf.f k c = some (x, b)) ∧ (∃ K, ∀ k, K ≤ k → impl_RegretOf.f k c = some (x, b)) ∧ b = costsOk c ∧ (costsOk c = true → ∃ g f : List Int, (∃ K, ∀ k, K ≤ k → spec_maCheapest.f k c = some g) ∧ (∃ K, ∀ k, K ≤ k → spec_maFirst.f k c = some f) ∧ f.length = c.length ∧ Part c.length f ∧ x = costTo c f f.length - costTo c g g.length ∧ 0 ≤ x) := by
  obtain ⟨K2, h2⟩ := maCosts_ev c hl hx
  obtain ⟨K3, h3⟩ := implAreCosts_ev c hl hx
  by_cases hc : costsOk c = true
  · obtain ⟨q1, q2, q3⟩ := (costsOk_iff c).1 hc
    obtain ⟨g, ⟨K4, h4⟩, ⟨K5, h5⟩, h6, h7, h8⟩ := cheapest_both hc
    obtain ⟨f, ⟨K6, f1⟩, ⟨K7, f2⟩, f3, f4⟩ := firstCome_part c hl (fun x hx => (q1 x hx).1)
    have hfg := fits_of hc h6 h7
    have hff := fits_of hc f3 f4
    obtain ⟨⟨K8, h9⟩, _⟩ := maCost_ev hfg
    obtain ⟨⟨K9, h10⟩, K10, h11⟩ := maCost_ev hff
    have b1 := costTo_bounds hfg g.length (Nat.le_refl _)
    have b2 := costTo_bounds hff f.length (Nat.le_refl _)
    have hle := h8 f f3 f4
    have hw : wrap64 (costTo c f f.length - costTo c g g.length) = costTo c f f.length - costTo c g g.length := w64 (by omega) (by omega)
    refine ⟨costTo c f f.length - costTo c g g.length, true, ⟨K2 + K4 + K6 + K8 + K9, fun k hk => ?_⟩, ⟨K3 + K5 + K7 + K10, fun k hk => ?_⟩, hc.symm, fun _ => ⟨g, f, ⟨K4, h4⟩, ⟨K6, f1⟩, f3, f4, rfl, by omega⟩⟩
    · unfold spec_RegretOf.f
      rw [h2 k (by omega)]
      simp only [Option.bind_some]
      rw [if_pos hc, f1 k (by omega)]
      simp only [Option.bind_some]
      rw [h10 k (by omega)]
      simp only [Option.bind_some]
      rw [h4 k (by omega)]
      simp only [Option.bind_some]
      rw [h9 k (by omega)]
      simp only [Option.bind_some]
      rw [hw]
    · unfold impl_RegretOf.f
      rw [h3 k (by omega)]
      simp only [Option.bind_some]
      rw [if_pos hc, h5 k (by omega)]
      simp only [Option.bind_some]
      rw [f2 k (by omega)]
      simp only [Option.bind_some]
      rw [h11 k (by omega)]
      simp only [Option.bind_some]
      rw [hw]
  · refine ⟨0, false, ⟨K2, fun k hk => ?_⟩, ⟨K3, fun k hk => ?_⟩, (Bool.eq_false_iff.mpr hc).symm, fun h => absurd h hc⟩
    · unfold spec_RegretOf.f
      rw [h2 k (by omega)]
      simp only [Option.bind_some]
      rw [if_neg hc]
    · unfold impl_RegretOf.f
      rw [h3 k (by omega)]
      simp only [Option.bind_some]
      rw [if_neg hc]
theorem FnExactRegretOf (l : List (List Int)) (hl : l.length ≤ maxLen) (hw : ∀ x ∈ l, x.length ≤ maxLen ∧ ∀ z ∈ x, (Lit.int .i64 z).wf = true) : ∃ k, laws_FnExactRegretOf.f k l = some true := by
  obtain ⟨r, ⟨K0, h0⟩, hr⟩ := szIntSS_ev l 1048576 (by omega) hl (fun x hx => (hw x hx).1)
  by_cases hneg : r < 0
  · refine ⟨K0, ?_⟩
    simp only [laws_FnExactRegretOf.f, h0 K0 (Nat.le_refl _), Option.bind_some, hneg, if_true]
  · have hb := hr (by omega)
    have hl2 : l.length ≤ 1048576 := by omega
    have hx2 : ∀ x ∈ l, x.length ≤ 1048576 := fun x hx => by have := hb.2.2 x hx; omega
    obtain ⟨K1, h1⟩ := toIntSS_ev l hl2 hx2
    obtain ⟨K4, h4⟩ := eqIntSS_ev l hl2 hx2
    obtain ⟨x, b, ⟨K5, h5⟩, ⟨K6, h6⟩, _⟩ := regret_both l hl2 hx2
    refine ⟨K0 + K1 + K4 + K5 + K6 + 1, ?_⟩
    simp (disch := omega) only [laws_FnExactRegretOf.f, h0, h1, h5, h6, Option.bind_some, hneg, if_true, if_false, bne_self_eq_false]
    simp (disch := omega) only [laws_FnExactRegretOf.j0, h1, h4, Option.bind_some, if_true, if_false, Bool.false_eq_true]

end Go.Proofs.Ytjipboafhakjfaa.Pure
