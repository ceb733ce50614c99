/- THE PURE SIDE OF FnExactMostDumps: the printed functions of the reference and of the program give the same results. Plain Lean: no memory and no Go. -/
import Derived.Test.YtikbfnbfbpnmjaaPFnExactMostDumpsx5
import Derived.OpenShut
namespace Go.Proofs.Ytikbfnbfbpnmjaa.Pure
open Go.RowKit Go.Proofs.Ytikbfnbfbpnmjaa.PFnExactMostDumps Go.Proofs.YtikbfnbfbpnmjaaW.PrintWords Go.Proofs.YtikbfnbfbpnmjaaW.PrintLast Go.Proofs.YtikbfnbfbpnmjaaW.PrintMore
set_option linter.unusedVariables false
set_option linter.unusedSimpArgs false

theorem w64 {x : Int} (h1 : -9223372036854775808 ≤ x) (h2 : x ≤ 9223372036854775807) : wrap64 x = x := by unfold wrap64; omega
theorem w64s {i : Nat} (h : i ≤ 9000000000000000000) : wrap64 ((i : Int) + 1) = ((i + 1 : Nat) : Int) := by rw [w64 (by omega) (by omega)]; omega
theorem rd_nat (l : List Int) (i : Nat) (h : i < l.length) : rd l (i : Int) = l[i] := by simp [rd, List.getD_eq_getElem?_getD, h]
theorem wf64 {x : Int} (h : (Lit.int .i64 x).wf = true) : -9223372036854775808 ≤ x ∧ x ≤ 9223372036854775807 := by
  have := bounds_i64 h
  omega
def inr (lo hi x : Int) : Bool := decide (lo ≤ x) && decide (x ≤ hi)
theorem inr_iff (lo hi x : Int) : inr lo hi x = true ↔ lo ≤ x ∧ x ≤ hi := by simp [inr]
theorem inr_false (lo hi x : Int) : inr lo hi x = false ↔ ¬ (lo ≤ x ∧ x ≤ hi) := by rw [← inr_iff, Bool.not_eq_true]
theorem mx_of_lt {a b : Int} (h : a < b) : mx a b = b := if_pos h
theorem mx_of_ge {a b : Int} (h : b ≤ a) : mx a b = a := if_neg (by omega)
theorem mx_spec (a b : Int) : a ≤ mx a b ∧ b ≤ mx a b ∧ (mx a b = a ∨ mx a b = b) := by unfold mx; split <;> omega
theorem l1In_eq (a b c : Int) : spec_l1In.f a b c = some (inr b c a) := by
  unfold spec_l1In.f inr
  by_cases h : a ≥ b
  · rw [if_pos h]; simp [show b ≤ a from h]
  · rw [if_neg h]; simp [show ¬ b ≤ a from h]
theorem l1Least_eq (a b : Int) : spec_l1Least.f a b = some (if a < b then a else b) := by
  unfold spec_l1Least.f
  split <;> rfl
theorem l1All_l0 (lo hi : Int) (l : List Int) (hl : l.length ≤ 9000000000000000000) : ∀ (d k i : Nat), i + d = l.length → d < k → spec_l1All.l0 k lo hi l (l.length : Int) (i : Int) = some ((l.drop i).all (inr lo hi)) := by
  intro d
  induction d with
  | zero =>
    intro k i hi' hk
    obtain ⟨k, rfl⟩ : ∃ m, k = m + 1 := ⟨k - 1, by omega⟩
    simp only [spec_l1All.l0]
    rw [if_neg (by omega), List.drop_of_length_le (by omega)]; rfl
  | succ d ih =>
    intro k i hi' hk
    obtain ⟨k, rfl⟩ : ∃ m, k = m + 1 := ⟨k - 1, by omega⟩
    have hlt : i < l.length := by omega
    simp only [spec_l1All.l0]
    rw [if_pos (by omega), if_pos (by omega), if_pos (by omega), l1In_eq, List.drop_eq_getElem_cons hlt, List.all_cons, rd_nat l i hlt, w64s (by omega), ih k (i + 1) (by omega) (by omega)]
    simp only [Option.bind_some]
    by_cases h : inr lo hi l[i] = true
    · rw [if_pos h, h, Bool.true_and]
    · rw [if_neg h, Bool.eq_false_iff.mpr h, Bool.false_and]
theorem l1All_eq (lo hi : Int) (l : List Int) (hl : l.length ≤ 9000000000000000000) (k : Nat) (hk : l.length < k) : spec_l1All.f k l lo hi = some (l.all (inr lo hi)) := by
  unfold spec_l1All.f
  exact l1All_l0 lo hi l hl l.length k 0 (by omega) hk
theorem eqIntS_l0 (l : List Int) (hl : l.length ≤ 9000000000000000000) : ∀ (d k i : Nat), i + d = l.length → d < k → laws_eqIntS.l0 k l l (i : Int) = some true := by
  intro d
  induction d with
  | zero =>
    intro k i hi' hk
    obtain ⟨k, rfl⟩ : ∃ m, k = m + 1 := ⟨k - 1, by omega⟩
    simp only [laws_eqIntS.l0]
    rw [if_neg (by omega)]
  | succ d ih =>
    intro k i hi' hk
    obtain ⟨k, rfl⟩ : ∃ m, k = m + 1 := ⟨k - 1, by omega⟩
    simp only [laws_eqIntS.l0]
    rw [if_pos (by omega), if_pos (by omega), if_pos (by omega), if_pos trivial, w64s (by omega)]
    exact ih k (i + 1) (by omega) (by omega)
theorem eqIntS_self (l : List Int) (hl : l.length ≤ 9000000000000000000) (k : Nat) (hk : l.length < k) : laws_eqIntS.f k l l = some true := by
  unfold laws_eqIntS.f
  rw [if_pos rfl]
  exact eqIntS_l0 l hl l.length k 0 (by omega) hk
theorem ev_loop {β : Type} {F : Nat → Nat → Option β} {n : Nat} {res : Nat → β} (last : ∃ K, ∀ k, K ≤ k → F k n = some (res n)) (step : ∀ i, i < n → ∀ K, (∀ k, K ≤ k → F k (i + 1) = some (res (i + 1))) → ∃ K, ∀ k, K ≤ k → F k i = some (res i)) : ∀ i, i ≤ n → ∃ K, ∀ k, K ≤ k → F k i = some (res i) := by
  have key : ∀ d i, i + d = n → ∃ K, ∀ k, K ≤ k → F k i = some (res i) := by
    intro d
    induction d with
    | zero => intro i h; obtain rfl : i = n := by omega
              exact last
    | succ d ih =>
      intro i h
      obtain ⟨K, hK⟩ := ih (i + 1) (by omega)
      exact step i (by omega) K hK
  exact fun i h => key (n - i) i (by omega)
/-- One round more. -/
theorem ev_suc {β : Type} {g : Nat → Option β} {r : β} (K : Nat) (h : ∀ k, K ≤ k → g (k + 1) = some r) : ∃ K, ∀ k, K ≤ k → g k = some r :=
  ⟨K + 1, fun k hk => by obtain ⟨k, rfl⟩ : ∃ m, k = m + 1 := ⟨k - 1, by omega⟩; exact h k (by omega)⟩
theorem fill_step {α : Type} (l : List α) (z : α) (i : Nat) (h : i < l.length) : (l.take i ++ List.replicate (l.length - i) z).set i l[i] = l.take (i + 1) ++ List.replicate (l.length - (i + 1)) z := by
  have e : l.length - i = (l.length - (i + 1)) + 1 := by omega
  rw [List.set_append_right _ _ (by rw [List.length_take]; omega), List.length_take, Nat.min_eq_left (by omega), Nat.sub_self, e, List.replicate_succ, List.set_cons_zero, List.take_succ_eq_append_getElem h, List.append_assoc, List.singleton_append]
theorem fill_length {α : Type} (l : List α) (z : α) (i : Nat) (h : i ≤ l.length) : (l.take i ++ List.replicate (l.length - i) z).length = l.length := by
  rw [List.length_append, List.length_take, List.length_replicate]; omega
theorem fill_last {α : Type} (l : List α) (z : α) : l.take l.length ++ List.replicate (l.length - l.length) z = l := by simp
/-- What 'sz' leaves: where it isn't below 0, the row is no longer than that. -/
theorem szIntS_ev (l : List Int) (a : Int) (ha : 0 ≤ a ∧ a ≤ 1048576) (hl : l.length ≤ maxLen) : ∃ r, laws_szIntS.f l a = some r ∧ (0 ≤ r → r = a - l.length) ∧ (r < 0 → a < l.length) := by
  simp only [maxLen] at hl
  unfold laws_szIntS.f
  rw [w64 (by omega) (by omega)]
  by_cases h : a - (l.length : Int) < 0
  · exact ⟨-1, by rw [if_pos h], fun h2 => by omega, fun _ => by omega⟩
  · exact ⟨a - (l.length : Int), by rw [if_neg h], fun _ => rfl, fun h2 => by omega⟩
theorem toIntS_ev (l : List Int) (hl : l.length ≤ 1048576) : ∃ K, ∀ k, K ≤ k → laws_toIntS.f k l = some l := by
  have h := ev_loop (F := fun k i => laws_toIntS.l0 k l (l.take i ++ List.replicate (l.length - i) 0) (i : Int)) (n := l.length) (res := fun _ => l)
    (ev_suc 0 fun k _ => by simp only [laws_toIntS.l0]; rw [if_neg (by omega), fill_last])
    (fun i hi K hK => ev_suc K fun k hk => by
      simp only [laws_toIntS.l0]
      rw [if_pos (by omega), if_pos (by omega), if_pos (by rw [fill_length l 0 i (by omega)]; omega), Int.toNat_natCast, rd_nat l i hi, fill_step l 0 i hi, w64s (by omega)]
      exact hK k hk) 0 (Nat.zero_le _)
  obtain ⟨K, h⟩ := h
  refine ⟨K, fun k hk => ?_⟩
  unfold laws_toIntS.f
  rw [if_pos (by omega), if_pos (by omega), Int.toNat_natCast]
  simpa using h k hk
theorem eqIntS_ev (l : List Int) (hl : l.length ≤ 1048576) : ∃ K, ∀ k, K ≤ k → laws_eqIntS.f k l l = some true :=
  ⟨l.length + 1, fun k hk => eqIntS_self l (by omega) k (by omega)⟩
theorem l1All_ev (lo hi : Int) (l : List Int) (hl : l.length ≤ 1048576) : ∃ K, ∀ k, K ≤ k → spec_l1All.f k l lo hi = some (l.all (inr lo hi)) :=
  ⟨l.length + 1, fun k hk => l1All_eq lo hi l (by omega) k (by omega)⟩

theorem szFleet_ev (a b c : List Int) (d e : Int) (l : Int) (hl : 0 ≤ l ∧ l ≤ 1048576) (ha : a.length ≤ maxLen) (hb : b.length ≤ maxLen) (hc : c.length ≤ maxLen) : ∃ r, laws_szFleet.f a b c d e l = some r ∧ (0 ≤ r → r = l - a.length - b.length - c.length) := by
  unfold laws_szFleet.f
  obtain ⟨r1, h1, h2, h3⟩ := szIntS_ev a l hl ha
  rw [h1]
  simp only [Option.bind_some]
  by_cases n1 : r1 < 0
  · exact ⟨-1, by rw [if_pos n1], fun h => by omega⟩
  · rw [if_neg n1]
    have e1 := h2 (by omega)
    obtain ⟨r2, h4, h5, h6⟩ := szIntS_ev b r1 (by omega) hb
    rw [h4]
    simp only [Option.bind_some]
    by_cases n2 : r2 < 0
    · exact ⟨-1, by rw [if_pos n2], fun h => by omega⟩
    · rw [if_neg n2]
      have e2 := h5 (by omega)
      obtain ⟨r3, h7, h8, h9⟩ := szIntS_ev c r2 (by omega) hc
      rw [h7]
      simp only [Option.bind_some]
      by_cases n3 : r3 < 0
      · exact ⟨-1, by rw [if_pos n3], fun h => by omega⟩
      · exact ⟨r3, by rw [if_neg n3], fun h => by have := h8 h; omega⟩
theorem toFleet_ev (a b c : List Int) (d e : Int) (ha : a.length ≤ 1048576) (hb : b.length ≤ 1048576) (hc : c.length ≤ 1048576) : ∃ K, ∀ k, K ≤ k → laws_toFleet.f k a b c d e = some (a, b, c, d, e) := by
  obtain ⟨K1, h1⟩ := toIntS_ev a ha
  obtain ⟨K2, h2⟩ := toIntS_ev b hb
  obtain ⟨K3, h3⟩ := toIntS_ev c hc
  exact ⟨K1 + K2 + K3, fun k hk => by simp (disch := omega) only [laws_toFleet.f, h1, h2, h3, Option.bind_some]⟩
theorem eqFleet_ev (a b c : List Int) (d e : Int) (ha : a.length ≤ 1048576) (hb : b.length ≤ 1048576) (hc : c.length ≤ 1048576) : ∃ K, ∀ k, K ≤ k → laws_eqFleet.f k a b c d e a b c d e = some true := by
  obtain ⟨K1, h1⟩ := eqIntS_ev a ha
  obtain ⟨K2, h2⟩ := eqIntS_ev b hb
  obtain ⟨K3, h3⟩ := eqIntS_ev c hc
  exact ⟨K1 + K2 + K3, fun k hk => by simp (disch := omega) only [laws_eqFleet.f, h1, h2, h3, Option.bind_some, if_true]⟩
def timesOk (l : List Int) (n : Nat) : Bool := decide (l.length = n) && l.all (inr 1 50)
def fleetOk (a b c : List Int) (d e : Int) : Bool := inr 1 4 (a.length : Int) && (timesOk a a.length && (timesOk b a.length && (timesOk c a.length && (inr 1 50 d && inr 1 400 e))))
structure Fleet (a b c : List Int) (d e : Int) : Prop where
  n : 1 ≤ a.length ∧ a.length ≤ 4
  lb : b.length = a.length
  lc : c.length = a.length
  a : ∀ x ∈ a, 1 ≤ x ∧ x ≤ 50
  b : ∀ x ∈ b, 1 ≤ x ∧ x ≤ 50
  c : ∀ x ∈ c, 1 ≤ x ∧ x ≤ 50
  d : 1 ≤ d ∧ d ≤ 50
  e : 1 ≤ e ∧ e ≤ 400
theorem fleetOk_iff (a b c : List Int) (d e : Int) : fleetOk a b c d e = true ↔ Fleet a b c d e := by
  simp only [fleetOk, timesOk, Bool.and_eq_true, inr_iff, decide_eq_true_eq, List.all_eq_true]
  constructor
  · rintro ⟨h1, ⟨_, h2⟩, ⟨h3, h4⟩, ⟨h5, h6⟩, h7, h8⟩
    exact ⟨by omega, h3, h5, h2, h4, h6, h7, h8⟩
  · rintro ⟨h1, h2, h3, h4, h5, h6, h7, h8⟩
    exact ⟨by omega, ⟨trivial, h4⟩, ⟨h2, h5⟩, ⟨h3, h6⟩, h7, h8⟩
theorem flTimes_ev (l : List Int) (hl : l.length ≤ 1048576) (n : Nat) : ∃ K, ∀ k, K ≤ k → spec_flTimes.f k l (n : Int) = some (timesOk l n) := by
  obtain ⟨K, h⟩ := l1All_ev 1 50 l hl
  refine ⟨K, fun k hk => ?_⟩
  unfold spec_flTimes.f timesOk
  by_cases h1 : l.length = n
  · rw [if_pos (by omega), h k hk, decide_eq_true h1, Bool.true_and]; rfl
  · rw [if_neg (by omega), decide_eq_false h1, Bool.false_and]
theorem flFleet_ev (a b c : List Int) (d e : Int) (ha : a.length ≤ 1048576) (hb : b.length ≤ 1048576) (hc : c.length ≤ 1048576) : ∃ K, ∀ k, K ≤ k → spec_flFleet.f k a b c d e = some (fleetOk a b c d e) := by
  obtain ⟨K1, h1⟩ := flTimes_ev a ha a.length
  obtain ⟨K2, h2⟩ := flTimes_ev b hb a.length
  obtain ⟨K3, h3⟩ := flTimes_ev c hc a.length
  refine ⟨K1 + K2 + K3, fun k hk => ?_⟩
  unfold spec_flFleet.f fleetOk
  simp (disch := omega) only [l1In_eq, h1, h2, h3, Option.bind_some]
  cases inr 1 4 (a.length : Int) <;> cases timesOk a a.length <;> cases timesOk b a.length <;> cases timesOk c a.length <;> cases inr 1 50 d <;> simp
theorem rdLL_natF (l : List (List Int)) (i : Nat) (h : i < l.length) : rd_L1 l (i : Int) = l[i] := by simp [rd_L1, List.getD_eq_getElem?_getD, h]
theorem implIsFleet_l1 (row : List (List Int)) (n i : Int) (c : List Int) (hc : c.length ≤ 1048576) (R : Bool) (K : Nat) (h : ∀ k, K ≤ k → impl_IsFleet.l0 k row n (wrap64 (i + 1)) = some R) :
    ∃ K, ∀ k, K ≤ k → impl_IsFleet.l1 k row n i c (c.length : Int) 0 = some (c.all (inr 1 50) && R) := by
  have h := ev_loop (F := fun k j => impl_IsFleet.l1 k row n i c (c.length : Int) (j : Int)) (n := c.length) (res := fun j => (c.drop j).all (inr 1 50) && R)
    (ev_suc K fun k hk => by
      simp only [impl_IsFleet.l1]
      rw [if_neg (by omega), List.drop_of_length_le (Nat.le_refl _), h k hk]
      rfl)
    (fun j hj K hK => ev_suc K fun k hk => by
      simp only [impl_IsFleet.l1]
      rw [if_pos (by omega), if_pos (by omega), if_pos (by omega), rd_nat c j hj, List.drop_eq_getElem_cons hj, List.all_cons]
      by_cases h1 : c[j] < 1
      · rw [if_pos h1, (inr_false _ _ _).2 (by omega)]; rfl
      · rw [if_neg h1]
        by_cases h2 : c[j] > 50
        · rw [if_pos h2, (inr_false _ _ _).2 (by omega)]; rfl
        · rw [if_neg h2, (inr_iff _ _ _).2 (by omega), w64s (by omega), hK k hk]; rfl) 0 (Nat.zero_le _)
  exact h
theorem implIsFleet_l0 (l : List (List Int)) (hl : l.length ≤ 10) (hx : ∀ x ∈ l, x.length ≤ 1048576) : ∃ K, ∀ k, K ≤ k → impl_IsFleet.l0 k l (l.length : Int) 0 = some (l.all fun x => x.all (inr 1 50)) := by
  have h := ev_loop (F := fun k i => impl_IsFleet.l0 k l (l.length : Int) (i : Int)) (n := l.length) (res := fun i => (l.drop i).all fun x => x.all (inr 1 50))
    (ev_suc 0 fun k _ => by
      simp only [impl_IsFleet.l0]
      rw [if_neg (by omega), List.drop_of_length_le (Nat.le_refl _)]
      rfl)
    (fun i hi K hK => by
      obtain ⟨K2, h2⟩ := implIsFleet_l1 l (l.length : Int) (i : Int) l[i] (hx _ (List.getElem_mem hi)) _ K (by rw [w64s (by omega)]; exact hK)
      exact ev_suc K2 fun k hk => by
        simp only [impl_IsFleet.l0]
        rw [if_pos (by omega), if_pos (by omega), if_pos (by omega), rdLL_natF l i hi, List.drop_eq_getElem_cons hi, List.all_cons, h2 k hk]) 0 (Nat.zero_le _)
  exact h
theorem implIsFleet_ev (a b c : List Int) (d e : Int) (ha : a.length ≤ 1048576) (hb : b.length ≤ 1048576) (hc : c.length ≤ 1048576) : ∃ K, ∀ k, K ≤ k → impl_IsFleet.f k a b c d e = some (fleetOk a b c d e) := by
  obtain ⟨K, h⟩ := implIsFleet_l0 [a, b, c] (by simp) (by simp [ha, hb, hc])
  refine ev_suc K fun k hk => ?_
  have h := h k hk
  have hj : ∀ x, impl_IsFleet.j0 (k + 1) x a b c d e = some (!x && (a.all (inr 1 50) && (b.all (inr 1 50) && c.all (inr 1 50)))) := by
    intro x
    simp only [impl_IsFleet.j0]
    cases x
    · rw [if_neg (by simp)]
      simp only [Option.bind_some]
      rw [h]
      simp
    · rw [if_pos rfl]; rfl
  unfold impl_IsFleet.f fleetOk timesOk
  simp only [hj]
  by_cases h1 : (a.length : Int) < 1
  · rw [if_pos h1, (inr_false 1 4 _).2 (by omega)]; rfl
  · rw [if_neg h1]
    by_cases h2 : (a.length : Int) > 4
    · rw [if_pos h2, (inr_false 1 4 _).2 (by omega)]; rfl
    · rw [if_neg h2, (inr_iff 1 4 _).2 (by omega)]
      by_cases h3 : (b.length : Int) = (a.length : Int)
      · rw [if_pos h3, decide_eq_true (show b.length = a.length by omega)]
        by_cases h4 : (c.length : Int) = (a.length : Int)
        · rw [if_pos h4, decide_eq_true (show c.length = a.length by omega)]
          by_cases h5 : d < 1
          · rw [if_pos h5, (inr_false 1 50 d).2 (by omega)]; simp
          · rw [if_neg h5]
            by_cases h6 : d > 50
            · rw [if_pos h6, (inr_false 1 50 d).2 (by omega)]; simp
            · rw [if_neg h6, (inr_iff 1 50 d).2 (by omega)]
              by_cases h7 : e < 1
              · rw [if_pos h7, (inr_false 1 400 e).2 (by omega)]; simp
              · rw [if_neg h7]
                by_cases h8 : e > 400
                · rw [decide_eq_true h8, (inr_false 1 400 e).2 (by omega)]; simp
                · rw [decide_eq_false h8, (inr_iff 1 400 e).2 (by omega)]; simp
        · rw [if_neg h4, decide_eq_false (show ¬ c.length = a.length by omega)]; simp
      · rw [if_neg h3, decide_eq_false (show ¬ b.length = a.length by omega)]; simp
/-- A truck's four times at a shovel. -/
def cycleAt (a b c : List Int) (d : Int) (s : Int) : Int := rd a s + rd b s + d + rd c s
theorem rd_in {l : List Int} {lo hi : Int} (h : ∀ x ∈ l, lo ≤ x ∧ x ≤ hi) {s : Int} (h0 : 0 ≤ s) (h1 : s < (l.length : Int)) : lo ≤ rd l s ∧ rd l s ≤ hi := by
  obtain ⟨i, rfl⟩ := Int.eq_ofNat_of_zero_le h0
  have hi : i < l.length := by omega
  rw [rd_nat l i hi]
  exact h _ (List.getElem_mem hi)
theorem cycle_bounds {a b c : List Int} {d e : Int} (h : Fleet a b c d e) {s : Int} (h0 : 0 ≤ s) (h1 : s < (a.length : Int)) : 4 ≤ cycleAt a b c d s ∧ cycleAt a b c d s ≤ 200 ∧ spec_flCycle.f a b c d e s = some (cycleAt a b c d s) := by
  have i1 := rd_in h.a h0 h1
  have i2 := rd_in h.b h0 (by rw [h.lb]; exact h1)
  have i3 := rd_in h.c h0 (by rw [h.lc]; exact h1)
  have i4 := h.d
  refine ⟨by unfold cycleAt; omega, by unfold cycleAt; omega, ?_⟩
  unfold spec_flCycle.f
  rw [if_pos h0, if_pos h1, if_pos (by rw [h.lb]; exact h1), if_pos (by rw [h.lc]; exact h1)]
  simp (disch := omega) only [w64]
  rfl
theorem freeCycle_eq {a b c : List Int} {d e : Int} (h : Fleet a b c d e) {s : Int} (h0 : 0 ≤ s) (h1 : s < (a.length : Int)) : impl_freeCycle.f a b c d e s = some (cycleAt a b c d s) := (cycle_bounds h h0 h1).2.2
theorem mn_least (a b : Int) : spec_l1Least.f a b = some (mn a b) := by
  rw [l1Least_eq]
  unfold mn
  congr 1
  by_cases h : a < b
  · rw [if_pos h, if_neg (by omega)]
  · rw [if_neg h]
    by_cases h2 : b < a
    · rw [if_pos h2]
    · rw [if_neg h2]; omega
theorem mn_spec (a b : Int) : mn a b ≤ a ∧ mn a b ≤ b ∧ (mn a b = a ∨ mn a b = b) := by unfold mn; split <;> omega
/-- The least time of a truck, over the first shovels. -/
def leastTo (a b c : List Int) (d : Int) : Nat → Int
  | 0 => cycleAt a b c d 0
  | i + 1 => mn (leastTo a b c d i) (cycleAt a b c d (i : Int))
theorem leastTo_bounds {a b c : List Int} {d e : Int} (h : Fleet a b c d e) : ∀ i, i ≤ a.length → 4 ≤ leastTo a b c d i ∧ leastTo a b c d i ≤ 200 := by
  intro i
  have hn := h.n
  induction i with
  | zero =>
    intro _
    have := cycle_bounds h (s := 0) (by omega) (by omega)
    simp only [leastTo]
    omega
  | succ i ih =>
    intro hi
    have h1 := ih (by omega)
    have h2 := cycle_bounds h (s := (i : Int)) (by omega) (by omega)
    have h3 := mn_spec (leastTo a b c d i) (cycleAt a b c d (i : Int))
    simp only [leastTo]
    omega
def mostOf (a b c : List Int) (d m t : Int) : Int := mn (t / d) (m * t / leastTo a b c d a.length + m)
theorem most_vals {a b c : List Int} {d e : Int} (h : Fleet a b c d e) {m t : Int} (hm : 1 ≤ m ∧ m ≤ 8) (ht : 0 ≤ t ∧ t ≤ 2000) : wrap64 (Int.tdiv t d) = t / d ∧ wrap64 ((wrap64 (Int.tdiv (wrap64 (m * t)) (leastTo a b c d a.length))) + m) = m * t / leastTo a b c d a.length + m := by
  have h1 := leastTo_bounds h a.length (Nat.le_refl _)
  have h2 := h.d
  have h3 : 0 ≤ m * t := Int.mul_nonneg (by omega) ht.1
  have h4 : m * t ≤ 8 * 2000 := Int.mul_le_mul hm.2 ht.2 ht.1 (by omega)
  have h5 := Int.ediv_le_self (a := t) d ht.1
  have h6 : 0 ≤ t / d := Int.ediv_nonneg ht.1 (by omega)
  have h7 := Int.ediv_le_self (a := m * t) (leastTo a b c d a.length) h3
  have h8 : 0 ≤ m * t / leastTo a b c d a.length := Int.ediv_nonneg h3 (by omega)
  rw [w64 (x := m * t) (by omega) (by omega), Int.tdiv_eq_ediv_of_nonneg ht.1, Int.tdiv_eq_ediv_of_nonneg h3, w64 (x := t / d) (by omega) (by omega), w64 (x := m * t / leastTo a b c d a.length) (by omega) (by omega), w64 (by omega) (by omega)]
  exact ⟨rfl, rfl⟩
theorem most_l0 {a b c : List Int} {d e : Int} (h : Fleet a b c d e) {m t : Int} (hm : 1 ≤ m ∧ m ≤ 8) (ht : 0 ≤ t ∧ t ≤ 2000) : (∃ K, ∀ k, K ≤ k → spec_MostDumps.l0 k m t (cycleAt a b c d 0) (a.length : Int) 0 a b c d e = some (mostOf a b c d m t, true)) ∧ ∃ K, ∀ k, K ≤ k → impl_MostDumps.l0 k m t (cycleAt a b c d 0) (a.length : Int) 0 a b c d e = some (mostOf a b c d m t, true) := by
  have hn := h.n
  have hd := h.d
  have hl := leastTo_bounds h a.length (Nat.le_refl _)
  have hv := most_vals h hm ht
  have h1 := ev_loop (F := fun k i => spec_MostDumps.l0 k m t (leastTo a b c d i) (a.length : Int) (i : Int) a b c d e) (n := a.length) (res := fun _ => (mostOf a b c d m t, true))
    (ev_suc 0 fun k _ => by
      simp only [spec_MostDumps.l0]
      rw [if_neg (by omega), if_neg (by omega), if_neg (by omega), hv.1, hv.2, mn_least]
      rfl)
    (fun i hi K hK => ev_suc K fun k hk => by
      have h2 := cycle_bounds h (s := (i : Int)) (by omega) (by omega)
      simp only [spec_MostDumps.l0]
      rw [if_pos (by omega), h2.2.2]
      simp only [Option.bind_some]
      rw [mn_least, w64s (by omega)]
      exact hK k hk) 0 (Nat.zero_le _)
  have h2 := ev_loop (F := fun k i => impl_MostDumps.l0 k m t (leastTo a b c d i) (a.length : Int) (i : Int) a b c d e) (n := a.length) (res := fun _ => (mostOf a b c d m t, true))
    (ev_suc 0 fun k _ => by
      simp only [impl_MostDumps.l0]
      rw [if_neg (by omega), if_neg (by omega), if_neg (by omega), hv.1, hv.2]
      rfl)
    (fun i hi K hK => ev_suc K fun k hk => by
      simp only [impl_MostDumps.l0]
      rw [if_pos (by omega), freeCycle_eq h (s := (i : Int)) (by omega) (by omega)]
      simp only [Option.bind_some]
      rw [w64s (by omega)]
      exact hK k hk) 0 (Nat.zero_le _)
  exact ⟨h1, h2⟩
theorem mostDumps_both (a b c : List Int) (d e m t : Int) (ha : a.length ≤ 1048576) (hb : b.length ≤ 1048576) (hc : c.length ≤ 1048576) : ∃ r, (∃ K, ∀ k, K ≤ k → spec_MostDumps.f k a b c d e m t = some r) ∧ (∃ K, ∀ k, K ≤ k → impl_MostDumps.f k a b c d e m t = some r) ∧ (r = (0, false) ∨ Fleet a b c d e ∧ (1 ≤ m ∧ m ≤ 8) ∧ (0 ≤ t ∧ t ≤ 2000) ∧ r = (mostOf a b c d m t, true)) := by
  obtain ⟨K1, h1⟩ := flFleet_ev a b c d e ha hb hc
  obtain ⟨K2, h2⟩ := implIsFleet_ev a b c d e ha hb hc
  have sj : ∀ k, spec_MostDumps.j0 (k + 1) m t true a b c d e = some (0, false) := fun k => by simp only [spec_MostDumps.j0, if_true]
  have ij : ∀ k, impl_MostDumps.j0 (k + 1) m t true a b c d e = some (0, false) := fun k => by simp only [impl_MostDumps.j0, if_true]
  by_cases hf : fleetOk a b c d e = true
  · have F := (fleetOk_iff _ _ _ _ _).1 hf
    have hn := F.n
    by_cases hm : 1 ≤ m ∧ m ≤ 8
    · by_cases ht : 0 ≤ t ∧ t ≤ 2000
      · obtain ⟨⟨K3, h3⟩, K4, h4⟩ := most_l0 F hm ht
        have hcy := cycle_bounds F (s := 0) (by omega) (by omega)
        refine ⟨(mostOf a b c d m t, true), ev_suc (K1 + K3) fun k hk => ?_, ev_suc (K2 + K4) fun k hk => ?_, .inr ⟨F, hm, ht, rfl⟩⟩
        · unfold spec_MostDumps.f spec_flTicks.f
          rw [h1 _ (by omega)]
          simp only [Option.bind_some, l1In_eq]
          rw [if_pos hf, if_pos ((inr_iff _ _ _).2 hm), (inr_iff _ _ _).2 ht]
          simp only [spec_MostDumps.j0, Bool.not_true, Bool.false_eq_true, if_false]
          rw [hcy.2.2]
          exact h3 k (by omega)
        · unfold impl_MostDumps.f
          rw [h2 _ (by omega)]
          simp only [Option.bind_some]
          rw [if_pos hf, if_neg (by omega), if_neg (by omega), if_neg (by omega), decide_eq_false (by omega)]
          simp only [impl_MostDumps.j0, Bool.false_eq_true, if_false]
          rw [freeCycle_eq F (s := 0) (by omega) (by omega)]
          exact h4 k (by omega)
      · refine ⟨(0, false), ev_suc K1 fun k hk => ?_, ev_suc K2 fun k hk => ?_, .inl rfl⟩
        · unfold spec_MostDumps.f spec_flTicks.f
          rw [h1 _ (by omega)]
          simp only [Option.bind_some, l1In_eq]
          rw [if_pos hf, if_pos ((inr_iff _ _ _).2 hm), (inr_false _ _ _).2 ht, Bool.not_false, sj]
        · unfold impl_MostDumps.f
          rw [h2 _ (by omega)]
          simp only [Option.bind_some]
          rw [if_pos hf, if_neg (by omega), if_neg (by omega)]
          by_cases h5 : t < 0
          · rw [if_pos h5, ij]
          · rw [if_neg h5, decide_eq_true (by omega), ij]
    · refine ⟨(0, false), ev_suc K1 fun k hk => ?_, ev_suc K2 fun k hk => ?_, .inl rfl⟩
      · unfold spec_MostDumps.f
        rw [h1 _ (by omega)]
        simp only [Option.bind_some, l1In_eq]
        rw [if_pos hf, if_neg (fun h => hm ((inr_iff _ _ _).1 h)), sj]
      · unfold impl_MostDumps.f
        rw [h2 _ (by omega)]
        simp only [Option.bind_some]
        rw [if_pos hf]
        by_cases h5 : m < 1
        · rw [if_pos h5, ij]
        · rw [if_neg h5, if_pos (by omega), ij]
  · refine ⟨(0, false), ev_suc K1 fun k hk => ?_, ev_suc K2 fun k hk => ?_, .inl rfl⟩
    · unfold spec_MostDumps.f
      rw [h1 _ (by omega)]
      simp only [Option.bind_some]
      rw [if_neg hf, sj]
    · unfold impl_MostDumps.f
      rw [h2 _ (by omega)]
      simp only [Option.bind_some]
      rw [if_neg hf, ij]
theorem FnExactMostDumps (a b c : List Int) (d e m t : Int) (ha : a.length ≤ maxLen) (_ : ∀ z ∈ a, (Lit.int .i64 z).wf = true) (hb : b.length ≤ maxLen) (_ : ∀ z ∈ b, (Lit.int .i64 z).wf = true) (hc : c.length ≤ maxLen) (_ : ∀ z ∈ c, (Lit.int .i64 z).wf = true) (_ : (Lit.int .i64 d).wf = true) (_ : (Lit.int .i64 e).wf = true) (_ : (Lit.int .i64 m).wf = true) (_ : (Lit.int .i64 t).wf = true) : ∃ k, laws_FnExactMostDumps.f k a b c d e m t = some true := by
  obtain ⟨z, h0, hs⟩ := szFleet_ev a b c d e 1048576 (by omega) ha hb hc
  by_cases hneg : z < 0
  · refine ⟨0, ?_⟩
    simp only [laws_FnExactMostDumps.f, h0, Option.bind_some, hneg, if_true]
  · have hs2 := hs (by omega)
    obtain ⟨K1, h1⟩ := toFleet_ev a b c d e (by omega) (by omega) (by omega)
    obtain ⟨r, ⟨K2, h2⟩, ⟨K3, h3⟩, _⟩ := mostDumps_both a b c d e m t (by omega) (by omega) (by omega)
    obtain ⟨K4, h4⟩ := eqFleet_ev a b c d e (by omega) (by omega) (by omega)
    refine ⟨K1 + K2 + K3 + K4 + 1, ?_⟩
    simp (disch := omega) only [laws_FnExactMostDumps.f, h0, h1, h2, h3, h4, Option.bind_some, hneg, if_true, if_false, bne_self_eq_false, Bool.false_eq_true]
    simp (disch := omega) only [laws_FnExactMostDumps.j0, h1, h4, Option.bind_some, if_true, if_false, Bool.false_eq_true]

end Go.Proofs.Ytikbfnbfbpnmjaa.Pure
