/- THE PURE SIDE OF FnExactWayCost: the printed functions of the reference and of the program give the same results. Plain Lean: no memory and no Go. -/
import Derived.Test.YtbgjhdhdfdfpkaaPFnExactWayCostx11
import Derived.OpenShut
namespace Go.Proofs.Ytbgjhdhdfdfpkaa.Pure
open Go.RowKit Go.Proofs.Ytbgjhdhdfdfpkaa.PFnExactWayCost Go.Proofs.YtbgjhdhdfdfpkaaW.PrintWords Go.Proofs.YtbgjhdhdfdfpkaaW.PrintLast Go.Proofs.YtbgjhdhdfdfpkaaW.PrintMore
set_option linter.unusedVariables false
set_option linter.unusedSimpArgs false

theorem w64 {x : Int} (h1 : -9223372036854775808 ≤ x) (h2 : x ≤ 9223372036854775807) : wrap64 x = x := by unfold wrap64; omega
theorem w64s {i : Nat} (h : i ≤ 9000000000000000000) : wrap64 ((i : Int) + 1) = ((i + 1 : Nat) : Int) := by rw [w64 (by omega) (by omega)]; omega
theorem rd_nat (l : List Int) (i : Nat) (h : i < l.length) : rd l (i : Int) = l[i] := by simp [rd, List.getD_eq_getElem?_getD, h]
theorem wf64 {x : Int} (h : (Lit.int .i64 x).wf = true) : -9223372036854775808 ≤ x ∧ x ≤ 9223372036854775807 := by
  have := bounds_i64 h
  omega
def inr (lo hi x : Int) : Bool := decide (lo ≤ x) && decide (x ≤ hi)
theorem inr_iff (lo hi x : Int) : inr lo hi x = true ↔ lo ≤ x ∧ x ≤ hi := by simp [inr]
theorem inr_false (lo hi x : Int) : inr lo hi x = false ↔ ¬ (lo ≤ x ∧ x ≤ hi) := by rw [← inr_iff, Bool.not_eq_true]
theorem mx_of_lt {a b : Int} (h : a < b) : mx a b = b := if_pos h
theorem mx_of_ge {a b : Int} (h : b ≤ a) : mx a b = a := if_neg (by omega)
theorem mx_spec (a b : Int) : a ≤ mx a b ∧ b ≤ mx a b ∧ (mx a b = a ∨ mx a b = b) := by unfold mx; split <;> omega
theorem l1In_eq (a b c : Int) : spec_l1In.f a b c = some (inr b c a) := by
  unfold spec_l1In.f inr
  by_cases h : a ≥ b
  · rw [if_pos h]; simp [show b ≤ a from h]
  · rw [if_neg h]; simp [show ¬ b ≤ a from h]
theorem l1Most_eq (a b : Int) : spec_l1Most.f a b = some (mx a b) := by
  unfold spec_l1Most.f mx
  by_cases h : a > b
  · rw [if_pos h, if_neg (by omega)]
  · rw [if_neg h]
    by_cases h2 : a < b
    · rw [if_pos h2]
    · rw [if_neg h2, show a = b from by omega]
theorem l1All_l0 (lo hi : Int) (l : List Int) (hl : l.length ≤ 9000000000000000000) : ∀ (d k i : Nat), i + d = l.length → d < k → spec_l1All.l0 k lo hi l (l.length : Int) (i : Int) = some ((l.drop i).all (inr lo hi)) := by
  intro d
  induction d with
  | zero =>
    intro k i hi' hk
    obtain ⟨k, rfl⟩ : ∃ m, k = m + 1 := ⟨k - 1, by omega⟩
    simp only [spec_l1All.l0]
    rw [if_neg (by omega), List.drop_of_length_le (by omega)]; rfl
  | succ d ih =>
    intro k i hi' hk
    obtain ⟨k, rfl⟩ : ∃ m, k = m + 1 := ⟨k - 1, by omega⟩
    have hlt : i < l.length := by omega
    simp only [spec_l1All.l0]
    rw [if_pos (by omega), if_pos (by omega), if_pos (by omega), l1In_eq, List.drop_eq_getElem_cons hlt, List.all_cons, rd_nat l i hlt, w64s (by omega), ih k (i + 1) (by omega) (by omega)]
    simp only [Option.bind_some]
    by_cases h : inr lo hi l[i] = true
    · rw [if_pos h, h, Bool.true_and]
    · rw [if_neg h, Bool.eq_false_iff.mpr h, Bool.false_and]
theorem l1All_eq (lo hi : Int) (l : List Int) (hl : l.length ≤ 9000000000000000000) (k : Nat) (hk : l.length < k) : spec_l1All.f k l lo hi = some (l.all (inr lo hi)) := by
  unfold spec_l1All.f
  exact l1All_l0 lo hi l hl l.length k 0 (by omega) hk
theorem eqIntS_l0 (l : List Int) (hl : l.length ≤ 9000000000000000000) : ∀ (d k i : Nat), i + d = l.length → d < k → laws_eqIntS.l0 k l l (i : Int) = some true := by
  intro d
  induction d with
  | zero =>
    intro k i hi' hk
    obtain ⟨k, rfl⟩ : ∃ m, k = m + 1 := ⟨k - 1, by omega⟩
    simp only [laws_eqIntS.l0]
    rw [if_neg (by omega)]
  | succ d ih =>
    intro k i hi' hk
    obtain ⟨k, rfl⟩ : ∃ m, k = m + 1 := ⟨k - 1, by omega⟩
    simp only [laws_eqIntS.l0]
    rw [if_pos (by omega), if_pos (by omega), if_pos (by omega), if_pos trivial, w64s (by omega)]
    exact ih k (i + 1) (by omega) (by omega)
theorem eqIntS_self (l : List Int) (hl : l.length ≤ 9000000000000000000) (k : Nat) (hk : l.length < k) : laws_eqIntS.f k l l = some true := by
  unfold laws_eqIntS.f
  rw [if_pos rfl]
  exact eqIntS_l0 l hl l.length k 0 (by omega) hk
theorem ev_loop {β : Type} {F : Nat → Nat → Option β} {n : Nat} {res : Nat → β} (last : ∃ K, ∀ k, K ≤ k → F k n = some (res n)) (step : ∀ i, i < n → ∀ K, (∀ k, K ≤ k → F k (i + 1) = some (res (i + 1))) → ∃ K, ∀ k, K ≤ k → F k i = some (res i)) : ∀ i, i ≤ n → ∃ K, ∀ k, K ≤ k → F k i = some (res i) := by
  have key : ∀ d i, i + d = n → ∃ K, ∀ k, K ≤ k → F k i = some (res i) := by
    intro d
    induction d with
    | zero => intro i h; obtain rfl : i = n := by omega
              exact last
    | succ d ih =>
      intro i h
      obtain ⟨K, hK⟩ := ih (i + 1) (by omega)
      exact step i (by omega) K hK
  exact fun i h => key (n - i) i (by omega)
/-- One round more. -/
theorem ev_suc {β : Type} {g : Nat → Option β} {r : β} (K : Nat) (h : ∀ k, K ≤ k → g (k + 1) = some r) : ∃ K, ∀ k, K ≤ k → g k = some r :=
  ⟨K + 1, fun k hk => by obtain ⟨k, rfl⟩ : ∃ m, k = m + 1 := ⟨k - 1, by omega⟩; exact h k (by omega)⟩
theorem fill_step {α : Type} (l : List α) (z : α) (i : Nat) (h : i < l.length) : (l.take i ++ List.replicate (l.length - i) z).set i l[i] = l.take (i + 1) ++ List.replicate (l.length - (i + 1)) z := by
  have e : l.length - i = (l.length - (i + 1)) + 1 := by omega
  rw [List.set_append_right _ _ (by rw [List.length_take]; omega), List.length_take, Nat.min_eq_left (by omega), Nat.sub_self, e, List.replicate_succ, List.set_cons_zero, List.take_succ_eq_append_getElem h, List.append_assoc, List.singleton_append]
theorem fill_length {α : Type} (l : List α) (z : α) (i : Nat) (h : i ≤ l.length) : (l.take i ++ List.replicate (l.length - i) z).length = l.length := by
  rw [List.length_append, List.length_take, List.length_replicate]; omega
theorem fill_last {α : Type} (l : List α) (z : α) : l.take l.length ++ List.replicate (l.length - l.length) z = l := by simp
/-- What 'sz' leaves: where it isn't below 0, the row is no longer than that. -/
theorem szIntS_ev (l : List Int) (a : Int) (ha : 0 ≤ a ∧ a ≤ 1048576) (hl : l.length ≤ maxLen) : ∃ r, laws_szIntS.f l a = some r ∧ (0 ≤ r → r = a - l.length) ∧ (r < 0 → a < l.length) := by
  simp only [maxLen] at hl
  unfold laws_szIntS.f
  rw [w64 (by omega) (by omega)]
  by_cases h : a - (l.length : Int) < 0
  · exact ⟨-1, by rw [if_pos h], fun h2 => by omega, fun _ => by omega⟩
  · exact ⟨a - (l.length : Int), by rw [if_neg h], fun _ => rfl, fun h2 => by omega⟩
theorem toIntS_ev (l : List Int) (hl : l.length ≤ 1048576) : ∃ K, ∀ k, K ≤ k → laws_toIntS.f k l = some l := by
  have h := ev_loop (F := fun k i => laws_toIntS.l0 k l (l.take i ++ List.replicate (l.length - i) 0) (i : Int)) (n := l.length) (res := fun _ => l)
    (ev_suc 0 fun k _ => by simp only [laws_toIntS.l0]; rw [if_neg (by omega), fill_last])
    (fun i hi K hK => ev_suc K fun k hk => by
      simp only [laws_toIntS.l0]
      rw [if_pos (by omega), if_pos (by omega), if_pos (by rw [fill_length l 0 i (by omega)]; omega), Int.toNat_natCast, rd_nat l i hi, fill_step l 0 i hi, w64s (by omega)]
      exact hK k hk) 0 (Nat.zero_le _)
  obtain ⟨K, h⟩ := h
  refine ⟨K, fun k hk => ?_⟩
  unfold laws_toIntS.f
  rw [if_pos (by omega), if_pos (by omega), Int.toNat_natCast]
  simpa using h k hk
theorem eqIntS_ev (l : List Int) (hl : l.length ≤ 1048576) : ∃ K, ∀ k, K ≤ k → laws_eqIntS.f k l l = some true :=
  ⟨l.length + 1, fun k hk => eqIntS_self l (by omega) k (by omega)⟩
theorem l1All_ev (lo hi : Int) (l : List Int) (hl : l.length ≤ 1048576) : ∃ K, ∀ k, K ≤ k → spec_l1All.f k l lo hi = some (l.all (inr lo hi)) :=
  ⟨l.length + 1, fun k hk => l1All_eq lo hi l (by omega) k (by omega)⟩

theorem szTerrain_ev (x y : Int) (l : List Int) (s u d t : Int) (a : Int) (ha : 0 ≤ a ∧ a ≤ 1048576) (hl : l.length ≤ maxLen) : ∃ r, laws_szTerrain.f x y l s u d t a = some r ∧ (0 ≤ r → (l.length : Int) ≤ a) := by
  unfold laws_szTerrain.f
  obtain ⟨r1, h1, h2, h3⟩ := szIntS_ev l a ha hl
  rw [h1]
  simp only [Option.bind_some]
  by_cases n1 : r1 < 0
  · exact ⟨-1, by rw [if_pos n1], fun h => by omega⟩
  · exact ⟨r1, by rw [if_neg n1], fun h => by have := h2 h; omega⟩
theorem toTerrain_ev (x y : Int) (l : List Int) (s u d t : Int) (hl : l.length ≤ 1048576) : ∃ K, ∀ k, K ≤ k → laws_toTerrain.f k x y l s u d t = some (x, y, l, s, u, d, t) := by
  obtain ⟨K1, h1⟩ := toIntS_ev l hl
  exact ⟨K1, fun k hk => by simp (disch := omega) only [laws_toTerrain.f, h1, Option.bind_some]⟩
theorem eqTerrain_ev (x y : Int) (l : List Int) (s u d t : Int) (hl : l.length ≤ 1048576) : ∃ K, ∀ k, K ≤ k → laws_eqTerrain.f k x y l s u d t x y l s u d t = some true := by
  obtain ⟨K1, h1⟩ := eqIntS_ev l hl
  exact ⟨K1, fun k hk => by simp (disch := omega) only [laws_eqTerrain.f, h1, Option.bind_some, if_true]⟩
def terrOk (x y : Int) (l : List Int) (s u d t : Int) : Bool := inr 1 8 x && (inr 1 6 y && (decide ((l.length : Int) = x * y) && (l.all (inr 0 200) && (inr 0 200 s && [u, d, t].all (inr 0 100)))))
structure Terr (X Y : Int) (H : List Int) (S U D R : Int) : Prop where
  x : 1 ≤ X ∧ X ≤ 8
  y : 1 ≤ Y ∧ Y ≤ 6
  len : (H.length : Int) = X * Y
  all : ∀ h ∈ H, 0 ≤ h ∧ h ≤ 200
  s : 0 ≤ S ∧ S ≤ 200
  u : 0 ≤ U ∧ U ≤ 100
  d : 0 ≤ D ∧ D ≤ 100
  t : 0 ≤ R ∧ R ≤ 100
theorem terrOk_iff (x y : Int) (l : List Int) (s u d t : Int) : terrOk x y l s u d t = true ↔ Terr x y l s u d t := by
  simp only [terrOk, Bool.and_eq_true, inr_iff, decide_eq_true_eq, List.all_eq_true, List.mem_cons, List.not_mem_nil, or_false]
  constructor
  · rintro ⟨h1, h2, h3, h4, h5, h6⟩
    exact ⟨h1, h2, h3, h4, h5, h6 u (.inl rfl), h6 d (.inr (.inl rfl)), h6 t (.inr (.inr rfl))⟩
  · rintro ⟨h1, h2, h3, h4, h5, h6, h7, h8⟩
    refine ⟨h1, h2, h3, h4, h5, ?_⟩
    rintro z (rfl | rfl | rfl)
    · exact h6
    · exact h7
    · exact h8
theorem xy_bounds {x y : Int} (hx : 1 ≤ x ∧ x ≤ 8) (hy : 1 ≤ y ∧ y ≤ 6) : 1 ≤ x * y ∧ x * y ≤ 48 := by
  have h1 : 1 * 1 ≤ x * y := Int.mul_le_mul hx.1 hy.1 (by omega) (by omega)
  have h2 : x * y ≤ 8 * 6 := Int.mul_le_mul hx.2 hy.2 (by omega) (by omega)
  omega
theorem roGood_ev (x y : Int) (l : List Int) (s u d t : Int) (hl : l.length ≤ 1048576) : ∃ K, ∀ k, K ≤ k → spec_roGood.f k x y l s u d t = some (terrOk x y l s u d t) := by
  obtain ⟨K1, h1⟩ := l1All_ev 0 200 l hl
  refine ⟨K1 + 10, fun k hk => ?_⟩
  have h2 := l1All_eq 0 100 [u, d, t] (by simp) k (by simp; omega)
  unfold spec_roGood.f terrOk
  simp only [l1In_eq, Option.bind_some, h1 k (by omega), h2]
  by_cases hx : inr 1 8 x = true
  · by_cases hy : inr 1 6 y = true
    · have hb := xy_bounds ((inr_iff _ _ _).1 hx) ((inr_iff _ _ _).1 hy)
      rw [if_pos hx, if_pos hy, hx, hy, w64 (x := x * y) (by omega) (by omega)]
      by_cases h3 : (l.length : Int) = x * y
      · rw [if_pos h3, decide_eq_true h3]
        cases l.all (inr 0 200) <;> cases inr 0 200 s <;> simp
      · rw [if_neg h3, decide_eq_false h3]; rfl
    · rw [if_pos hx, if_neg hy, hx, Bool.eq_false_iff.mpr hy]; rfl
  · rw [if_neg hx, Bool.eq_false_iff.mpr hx]; rfl
theorem isTerrain_l1 (l : List Int) (hl : l.length ≤ 1048576) : ∃ K, ∀ k, K ≤ k → impl_IsTerrain.l1 k l (l.length : Int) 0 = some (l.all (inr 0 100)) := by
  have h := ev_loop (F := fun k i => impl_IsTerrain.l1 k l (l.length : Int) (i : Int)) (n := l.length) (res := fun i => (l.drop i).all (inr 0 100))
    (ev_suc 0 fun k _ => by
      simp only [impl_IsTerrain.l1]
      rw [if_neg (by omega), List.drop_of_length_le (Nat.le_refl _)]
      rfl)
    (fun j hj K hK => ev_suc K fun k hk => by
      simp only [impl_IsTerrain.l1]
      rw [if_pos (by omega), if_pos (by omega), if_pos (by omega), rd_nat l j hj, List.drop_eq_getElem_cons hj, List.all_cons]
      by_cases h1 : l[j] < 0
      · rw [if_pos h1, (inr_false _ _ _).2 (by omega)]; rfl
      · rw [if_neg h1]
        by_cases h2 : l[j] > 100
        · rw [if_pos h2, (inr_false _ _ _).2 (by omega)]; rfl
        · rw [if_neg h2, (inr_iff _ _ _).2 (by omega), w64s (by omega), hK k hk]; rfl) 0 (Nat.zero_le _)
  exact h
theorem implIsTerrain_ev (x y : Int) (l : List Int) (s u d t : Int) (hl : l.length ≤ 1048576) : ∃ K, ∀ k, K ≤ k → impl_IsTerrain.f k x y l s u d t = some (terrOk x y l s u d t) := by
  obtain ⟨K1, h1⟩ := isTerrain_l1 [u, d, t] (by simp)
  have h := ev_loop (F := fun k i => impl_IsTerrain.l0 k l (l.length : Int) (i : Int) x y l s u d t) (n := l.length) (res := fun i => (l.drop i).all (inr 0 200) && [u, d, t].all (inr 0 100))
    (ev_suc K1 fun k hk => by
      simp only [impl_IsTerrain.l0]
      rw [if_neg (by omega), List.drop_of_length_le (Nat.le_refl _)]
      simp only [Option.bind_some]
      rw [h1 k hk]
      rfl)
    (fun j hj K hK => ev_suc K fun k hk => by
      simp only [impl_IsTerrain.l0]
      rw [if_pos (by omega), if_pos (by omega), if_pos (by omega), rd_nat l j hj, List.drop_eq_getElem_cons hj, List.all_cons]
      by_cases h1 : l[j] < 0
      · rw [if_pos h1, (inr_false _ _ _).2 (by omega)]; rfl
      · rw [if_neg h1]
        by_cases h2 : l[j] > 200
        · rw [if_pos h2, (inr_false _ _ _).2 (by omega)]; rfl
        · rw [if_neg h2, (inr_iff _ _ _).2 (by omega), w64s (by omega), hK k hk]; rfl) 0 (Nat.zero_le _)
  obtain ⟨K, h⟩ := h
  refine ev_suc K fun k hk => ?_
  have h := h k hk
  have hj : ∀ b, impl_IsTerrain.j0 (k + 1) b x y l s u d t = some (!b && (l.all (inr 0 200) && [u, d, t].all (inr 0 100))) := by
    intro b
    simp only [impl_IsTerrain.j0]
    cases b
    · rw [if_neg (by simp)]
      simpa using h
    · rw [if_pos rfl]; rfl
  unfold impl_IsTerrain.f terrOk
  simp only [hj]
  by_cases h1 : x < 1
  · rw [if_pos h1, (inr_false 1 8 x).2 (by omega)]; rfl
  · rw [if_neg h1]
    by_cases h2 : x > 8
    · rw [if_pos h2, (inr_false 1 8 x).2 (by omega)]; rfl
    · rw [if_neg h2, (inr_iff 1 8 x).2 (by omega)]
      by_cases h3 : y < 1
      · rw [if_pos h3, (inr_false 1 6 y).2 (by omega)]; rfl
      · rw [if_neg h3]
        by_cases h4 : y > 6
        · rw [if_pos h4, (inr_false 1 6 y).2 (by omega)]; rfl
        · have hb := xy_bounds (x := x) (y := y) (by omega) (by omega)
          rw [if_neg h4, (inr_iff 1 6 y).2 (by omega), w64 (x := x * y) (by omega) (by omega)]
          by_cases h5 : (l.length : Int) = x * y
          · rw [if_pos h5, decide_eq_true h5]
            by_cases h6 : s < 0
            · rw [if_pos h6, (inr_false 0 200 s).2 (by omega)]; simp
            · rw [if_neg h6]
              by_cases h7 : s > 200
              · rw [decide_eq_true h7, (inr_false 0 200 s).2 (by omega)]; simp
              · rw [decide_eq_false h7, (inr_iff 0 200 s).2 (by omega)]; simp
          · rw [if_neg h5, decide_eq_false h5]; rfl
/-! Cells and sides: 0 to 3 for north, east, south and west. -/
theorem cell_split {X : Int} (hX : 1 ≤ X) (x y c : Int) (hx : 0 ≤ x ∧ x < X) : y * X + x = c ↔ c / X = y ∧ c % X = x := by
  rw [Int.ediv_emod_unique (by omega), Int.mul_comm X y]
  constructor
  · intro h; exact ⟨by omega, hx⟩
  · rintro ⟨h, _⟩; omega
/-- The cell at a side, or -1. -/
def nbXY (X Y x y : Int) : Int := if 0 ≤ x ∧ x < X ∧ 0 ≤ y ∧ y < Y then y * X + x else -1
def nbOf (X Y c d : Int) : Int := if d = 0 then nbXY X Y (c % X) (c / X + 1) else if d = 1 then nbXY X Y (c % X + 1) (c / X) else if d = 2 then nbXY X Y (c % X) (c / X - 1) else nbXY X Y (c % X - 1) (c / X)
theorem cell_coords {X Y c : Int} (hX : 1 ≤ X ∧ X ≤ 8) (hY : 1 ≤ Y ∧ Y ≤ 6) (h0 : 0 ≤ c) (h1 : c < X * Y) : 0 ≤ c % X ∧ c % X < X ∧ 0 ≤ c / X ∧ c / X < Y ∧ Int.tmod c X = c % X ∧ Int.tdiv c X = c / X := by
  refine ⟨Int.emod_nonneg _ (by omega), Int.emod_lt_of_pos _ (by omega), Int.ediv_nonneg h0 (by omega), ?_, Int.tmod_eq_emod_of_nonneg h0, Int.tdiv_eq_ediv_of_nonneg h0⟩
  exact Int.ediv_lt_of_lt_mul (by omega) (by rw [Int.mul_comm]; exact h1)
theorem roNeighbour_ev {X Y : Int} (hX : 1 ≤ X ∧ X ≤ 8) (hY : 1 ≤ Y ∧ Y ≤ 6) (l : List Int) (s u d t : Int) {c : Int} (h0 : 0 ≤ c) (h1 : c < X * Y) (e : Int) (k : Nat) (hk : 1 ≤ k) : spec_roNeighbour.f k X Y l s u d t c e = some (nbOf X Y c e) := by
  obtain ⟨k, rfl⟩ : ∃ m, k = m + 1 := ⟨k - 1, by omega⟩
  obtain ⟨c1, c2, c3, c4, c5, c6⟩ := cell_coords hX hY h0 h1
  have hj : ∀ x y : Int, -1 ≤ x → x ≤ X → -1 ≤ y → y ≤ Y → spec_roNeighbour.j0 (k + 1) x y X Y l s u d t = some (nbXY X Y x y) := by
    intro x y hx1 hx2 hy1 hy2
    simp only [spec_roNeighbour.j0, l1In_eq, Option.bind_some]
    rw [w64 (x := X - 1) (by omega) (by omega), w64 (x := Y - 1) (by omega) (by omega)]
    unfold nbXY
    by_cases hx : 0 ≤ x ∧ x < X
    · rw [if_pos ((inr_iff _ _ _).2 (by omega))]
      by_cases hy : 0 ≤ y ∧ y < Y
      · have h3 : 0 ≤ y * X := Int.mul_nonneg hy.1 (by omega)
        have h4 : y * X ≤ 6 * 8 := Int.mul_le_mul (by omega) hX.2 (by omega) (by omega)
        rw [if_pos ((inr_iff _ _ _).2 (by omega)), if_pos ⟨hx.1, hx.2, hy⟩, w64 (x := y * X) (by omega) (by omega), w64 (by omega) (by omega)]
      · rw [if_neg (fun h => hy (by have := (inr_iff _ _ _).1 h; omega)), if_neg (fun h => hy ⟨h.2.2.1, h.2.2.2⟩)]
    · rw [if_neg (fun h => hx (by have := (inr_iff _ _ _).1 h; omega)), if_neg (fun h => hx ⟨h.1, h.2.1⟩)]
  unfold spec_roNeighbour.f nbOf
  rw [if_neg (by omega), c5, c6, w64 (x := c / X) (by omega) (by omega), w64 (x := c / X + 1) (by omega) (by omega), w64 (x := c % X + 1) (by omega) (by omega), w64 (x := c / X - 1) (by omega) (by omega), w64 (x := c % X - 1) (by omega) (by omega)]
  rw [hj _ _ (by omega) (by omega) (by omega) (by omega), hj _ _ (by omega) (by omega) (by omega) (by omega), hj _ _ (by omega) (by omega) (by omega) (by omega), hj _ _ (by omega) (by omega) (by omega) (by omega)]
  split
  · rfl
  · split
    · rfl
    · split <;> rfl
/-- The direction of a step, or -1. -/
def dirOf (X Y a b : Int) : Int := if nbOf X Y a 0 = b then 0 else if nbOf X Y a 1 = b then 1 else if nbOf X Y a 2 = b then 2 else if nbOf X Y a 3 = b then 3 else -1
theorem roDirection_ev {X Y : Int} (hX : 1 ≤ X ∧ X ≤ 8) (hY : 1 ≤ Y ∧ Y ≤ 6) (l : List Int) (s u d t : Int) {a b : Int} (h0 : 0 ≤ a) (h1 : a < X * Y) (hb : 0 ≤ b) (k : Nat) (hk : 10 ≤ k) : spec_roDirection.f k X Y l s u d t a b = some (dirOf X Y a b) := by
  obtain ⟨k, rfl⟩ : ∃ m, k = m + 5 := ⟨k - 5, by omega⟩
  have hn := fun e k hk => roNeighbour_ev hX hY l s u d t h0 h1 e k hk
  have e1 : wrap64 (0 + 1) = 1 := by rw [w64 (by omega) (by omega)]; rfl
  have e2 : wrap64 (1 + 1) = 2 := by rw [w64 (by omega) (by omega)]; rfl
  have e3 : wrap64 (2 + 1) = 3 := by rw [w64 (by omega) (by omega)]; rfl
  have e4 : wrap64 (3 + 1) = 4 := by rw [w64 (by omega) (by omega)]; rfl
  unfold spec_roDirection.f dirOf
  simp only [spec_roDirection.l0]
  rw [if_pos (by omega), if_pos hb, hn 0 (k + 4) (by omega)]
  simp only [Option.bind_some, e1, spec_roDirection.l0]
  by_cases g0 : nbOf X Y a 0 = b
  · rw [if_pos g0, if_pos g0]
  · rw [if_neg g0, if_neg g0, if_pos (by omega), if_pos hb, hn 1 (k + 3) (by omega)]
    simp only [Option.bind_some, e2, spec_roDirection.l0]
    by_cases g1 : nbOf X Y a 1 = b
    · rw [if_pos g1, if_pos g1]
    · rw [if_neg g1, if_neg g1, if_pos (by omega), if_pos hb, hn 2 (k + 2) (by omega)]
      simp only [Option.bind_some, e3, spec_roDirection.l0]
      by_cases g2 : nbOf X Y a 2 = b
      · rw [if_pos g2, if_pos g2]
      · rw [if_neg g2, if_neg g2, if_pos (by omega), if_pos hb, hn 3 (k + 1) (by omega)]
        simp only [Option.bind_some, e4, spec_roDirection.l0]
        by_cases g3 : nbOf X Y a 3 = b
        · rw [if_pos g3, if_pos g3]
        · rw [if_neg g3, if_neg g3, if_neg (by omega)]
/-- A cell at a side, told by its place. -/
theorem nbXY_eq {X Y : Int} (hX : 1 ≤ X) (x y b : Int) (hb : 0 ≤ b) (hy : b / X < Y) : nbXY X Y x y = b ↔ b % X = x ∧ b / X = y := by
  unfold nbXY
  have m0 := Int.emod_nonneg b (show X ≠ 0 by omega)
  have m1 := Int.emod_lt_of_pos b (show 0 < X by omega)
  have m2 := Int.ediv_nonneg hb (show 0 ≤ X by omega)
  constructor
  · intro h
    split at h
    · rename_i hc
      have := (cell_split hX x y b ⟨hc.1, hc.2.1⟩).1 h
      exact ⟨this.2, this.1⟩
    · omega
  · rintro ⟨rfl, rfl⟩
    rw [if_pos ⟨m0, m1, m2, hy⟩]
    exact (cell_split hX _ _ b ⟨m0, m1⟩).2 ⟨rfl, rfl⟩
theorem nbOf_eq {X Y a b : Int} (hX : 1 ≤ X) (hb : 0 ≤ b) (hy : b / X < Y) (d : Int) : nbOf X Y a d = b ↔ if d = 0 then b % X = a % X ∧ b / X = a / X + 1 else if d = 1 then b % X = a % X + 1 ∧ b / X = a / X else if d = 2 then b % X = a % X ∧ b / X = a / X - 1 else b % X = a % X - 1 ∧ b / X = a / X := by
  unfold nbOf
  split
  · exact nbXY_eq hX _ _ b hb hy
  · split
    · exact nbXY_eq hX _ _ b hb hy
    · split
      · exact nbXY_eq hX _ _ b hb hy
      · exact nbXY_eq hX _ _ b hb hy
/-- A step's direction by the places of its two cells. -/
theorem dirOf_eq {X Y a b : Int} (hX : 1 ≤ X) (hb : 0 ≤ b) (hy : b / X < Y) : (dirOf X Y a b = 0 ↔ b % X = a % X ∧ b / X = a / X + 1) ∧ (dirOf X Y a b = 1 ↔ b % X = a % X + 1 ∧ b / X = a / X) ∧ (dirOf X Y a b = 2 ↔ b % X = a % X ∧ b / X = a / X - 1) ∧ (dirOf X Y a b = 3 ↔ b % X = a % X - 1 ∧ b / X = a / X) ∧ (dirOf X Y a b = -1 ∨ dirOf X Y a b = 0 ∨ dirOf X Y a b = 1 ∨ dirOf X Y a b = 2 ∨ dirOf X Y a b = 3) := by
  have n0 := nbOf_eq (a := a) hX hb hy 0
  have n1 := nbOf_eq (a := a) hX hb hy 1
  have n2 := nbOf_eq (a := a) hX hb hy 2
  have n3 := nbOf_eq (a := a) hX hb hy 3
  simp at n0 n1 n2 n3
  unfold dirOf
  by_cases g0 : nbOf X Y a 0 = b
  · rw [if_pos g0]
    have := n0.1 g0
    omega
  · rw [if_neg g0]
    have q0 := mt n0.2 g0
    by_cases g1 : nbOf X Y a 1 = b
    · rw [if_pos g1]
      have := n1.1 g1
      omega
    · rw [if_neg g1]
      have q1 := mt n1.2 g1
      by_cases g2 : nbOf X Y a 2 = b
      · rw [if_pos g2]
        have := n2.1 g2
        omega
      · rw [if_neg g2]
        have q2 := mt n2.2 g2
        by_cases g3 : nbOf X Y a 3 = b
        · rw [if_pos g3]
          have := n3.1 g3
          omega
        · rw [if_neg g3]
          have q3 := mt n3.2 g3
          omega
def ab (a : Int) : Int := mx a (-a)
theorem ab_spec (a : Int) : (0 ≤ a → ab a = a) ∧ (a ≤ 0 → ab a = -a) := by unfold ab mx; split <;> omega
theorem l1Abs_eq {a : Int} (h1 : -1000000 ≤ a) (h2 : a ≤ 1000000) : spec_l1Abs.f a = some (ab a) := by
  unfold spec_l1Abs.f ab
  rw [l1Most_eq, w64 (by omega) (by omega)]; rfl
theorem implAbs_eq {a : Int} (h1 : -1000000 ≤ a) (h2 : a ≤ 1000000) : impl_abs.f a = some (ab a) := by
  unfold impl_abs.f ab
  rw [w64 (by omega) (by omega)]
/-- The cost of a step between neighbours, or -1. -/
def costOf (l : List Int) (s u d a b : Int) : Int := if s < ab (rd l b - rd l a) then -1 else if 0 < rd l b - rd l a then 1 + (rd l b - rd l a) * u else 1 - (rd l b - rd l a) * d
theorem terr_at {x y : Int} {l : List Int} {s u d t : Int} (T : Terr x y l s u d t) {a : Int} (h0 : 0 ≤ a) (h1 : a < x * y) : 0 ≤ rd l a ∧ rd l a ≤ 200 ∧ a < (l.length : Int) := by
  obtain ⟨i, rfl⟩ := Int.eq_ofNat_of_zero_le h0
  have hl := T.len
  have hi : i < l.length := by omega
  rw [rd_nat l i hi]
  have := T.all _ (List.getElem_mem hi)
  omega
theorem mul_bounds {h u : Int} (hh : 0 ≤ h ∧ h ≤ 200) (hu : 0 ≤ u ∧ u ≤ 100) : 0 ≤ h * u ∧ h * u ≤ 20000 :=
  ⟨Int.mul_nonneg hh.1 hu.1, by have := Int.mul_le_mul hh.2 hu.2 hu.1 (by omega); omega⟩
theorem cost_facts {x y : Int} {l : List Int} {s u d t : Int} (T : Terr x y l s u d t) {a b : Int} (ha : 0 ≤ a ∧ a < x * y) (hb : 0 ≤ b ∧ b < x * y) : (costOf l s u d a b = -1 ∨ 1 ≤ costOf l s u d a b) ∧ costOf l s u d a b ≤ 20001 ∧ spec_roCost.f x y l s u d t a b = some (costOf l s u d a b) := by
  have h1 := terr_at T ha.1 ha.2
  have h2 := terr_at T hb.1 hb.2
  have hs := T.s
  have hab := ab_spec (rd l b - rd l a)
  unfold spec_roCost.f
  rw [if_pos hb.1, if_pos h2.2.2, if_pos ha.1, if_pos h1.2.2, w64 (x := rd l b - rd l a) (by omega) (by omega), l1Abs_eq (by omega) (by omega)]
  simp only [Option.bind_some]
  unfold costOf
  by_cases g1 : s < ab (rd l b - rd l a)
  · rw [if_pos g1, if_pos g1]
    exact ⟨.inl rfl, by omega, rfl⟩
  · rw [if_neg g1, if_neg g1]
    by_cases g2 : 0 < rd l b - rd l a
    · have m := mul_bounds (h := rd l b - rd l a) (u := u) (by omega) T.u
      rw [if_pos g2, if_pos g2, w64 (x := (rd l b - rd l a) * u) (by omega) (by omega), w64 (by omega) (by omega)]
      exact ⟨.inr (by omega), by omega, rfl⟩
    · have m := mul_bounds (h := -(rd l b - rd l a)) (u := d) (by omega) T.d
      rw [Int.neg_mul] at m
      rw [if_neg g2, if_neg g2, w64 (x := (rd l b - rd l a) * d) (by omega) (by omega), w64 (by omega) (by omega)]
      exact ⟨.inr (by omega), by omega, rfl⟩
/-- Are two cells neighbours? -/
def nextTo (X a b : Int) : Prop := ab (b % X - a % X) + ab (b / X - a / X) = 1
instance (X a b : Int) : Decidable (nextTo X a b) := by unfold nextTo; exact inferInstance
theorem implStepCost_eq {x y : Int} {l : List Int} {s u d t : Int} (T : Terr x y l s u d t) {a b : Int} (ha : 0 ≤ a ∧ a < x * y) (hb : 0 ≤ b ∧ b < x * y) : impl_stepCost.f x y l s u d t a b = some (if nextTo x a b then costOf l s u d a b else -1) := by
  have h1 := terr_at T ha.1 ha.2
  have h2 := terr_at T hb.1 hb.2
  have hx := T.x
  have hy := T.y
  obtain ⟨a1, a2, a3, a4, a5, a6⟩ := cell_coords T.x T.y ha.1 ha.2
  obtain ⟨b1, b2, b3, b4, b5, b6⟩ := cell_coords T.x T.y hb.1 hb.2
  have p1 := ab_spec (b % x - a % x)
  have p2 := ab_spec (b / x - a / x)
  have p3 := ab_spec (rd l b - rd l a)
  unfold impl_stepCost.f
  rw [if_pos hb.1, if_pos h2.2.2, if_pos ha.1, if_pos h1.2.2, if_neg (by omega), a5, a6, b5, b6, w64 (x := b % x - a % x) (by omega) (by omega), w64 (x := b / x) (by omega) (by omega), w64 (x := a / x) (by omega) (by omega), w64 (x := b / x - a / x) (by omega) (by omega), implAbs_eq (by omega) (by omega), implAbs_eq (by omega) (by omega)]
  simp only [Option.bind_some]
  rw [w64 (x := ab (b % x - a % x) + ab (b / x - a / x)) (by omega) (by omega)]
  by_cases g : nextTo x a b
  · have g' : ab (b % x - a % x) + ab (b / x - a / x) = 1 := g
    rw [if_pos g, if_pos g', w64 (x := rd l b - rd l a) (by omega) (by omega), implAbs_eq (by omega) (by omega)]
    simp only [Option.bind_some]
    unfold costOf
    by_cases g1 : s < ab (rd l b - rd l a)
    · rw [if_pos g1, if_pos g1]
    · rw [if_neg g1, if_neg g1, w64 (x := -(rd l b - rd l a)) (by omega) (by omega)]
      by_cases g2 : 0 < rd l b - rd l a
      · have m := mul_bounds (h := rd l b - rd l a) (u := u) (by omega) T.u
        rw [if_pos g2, mx_of_lt g2, mx_of_ge (by omega), Int.zero_mul, w64 (x := (rd l b - rd l a) * u) (by omega) (by omega), w64 (x := 1 + (rd l b - rd l a) * u) (by omega) (by omega), w64 (x := 0) (by omega) (by omega), Int.add_zero, w64 (by omega) (by omega)]
      · have m := mul_bounds (h := -(rd l b - rd l a)) (u := d) (by omega) T.d
        have e : mx 0 (-(rd l b - rd l a)) = -(rd l b - rd l a) := by
          unfold mx
          split <;> omega
        have e2 := Int.neg_mul (rd l b - rd l a) d
        rw [if_neg g2, mx_of_ge (by omega), e, Int.zero_mul, w64 (x := 0) (by omega) (by omega), Int.add_zero, w64 (x := 1) (by omega) (by omega), w64 (x := -(rd l b - rd l a) * d) (by omega) (by omega), w64 (by omega) (by omega), e2]
        congr 1
  · have g' : ¬ ab (b % x - a % x) + ab (b / x - a / x) = 1 := g
    rw [if_neg g, if_neg g']
theorem dir_next {X Y a b : Int} (hX : 1 ≤ X ∧ X ≤ 8) (hY : 1 ≤ Y ∧ Y ≤ 6) (hb : 0 ≤ b ∧ b < X * Y) : 0 ≤ dirOf X Y a b ↔ nextTo X a b := by
  obtain ⟨b1, b2, b3, b4, _, _⟩ := cell_coords hX hY hb.1 hb.2
  have h := dirOf_eq (a := a) hX.1 hb.1 b4
  have p1 := ab_spec (b % X - a % X)
  have p2 := ab_spec (b / X - a / X)
  unfold nextTo
  omega
theorem areCells_ev (x y : Int) (l : List Int) (s u d t : Int) (hl : l.length ≤ 1048576) (c : List Int) (hc : c.length ≤ 1048576) : ∃ K, ∀ k, K ≤ k → impl_areCells.f k x y l s u d t c = some (terrOk x y l s u d t && c.all (inr 0 ((l.length : Int) - 1))) := by
  obtain ⟨K1, h1⟩ := implIsTerrain_ev x y l s u d t hl
  have h := ev_loop (F := fun k i => impl_areCells.l0 k c (c.length : Int) (i : Int) x y l s u d t) (n := c.length) (res := fun i => (c.drop i).all (inr 0 ((l.length : Int) - 1)))
    (ev_suc 0 fun k _ => by
      simp only [impl_areCells.l0]
      rw [if_neg (by omega), List.drop_of_length_le (Nat.le_refl _)]
      rfl)
    (fun j hj K hK => ev_suc K fun k hk => by
      simp only [impl_areCells.l0]
      rw [if_pos (by omega), if_pos (by omega), if_pos (by omega), rd_nat c j hj, List.drop_eq_getElem_cons hj, List.all_cons]
      by_cases h1 : c[j] < 0
      · rw [if_pos h1, (inr_false _ _ _).2 (by omega)]; rfl
      · rw [if_neg h1]
        by_cases h2 : c[j] ≥ (l.length : Int)
        · rw [if_pos h2, (inr_false _ _ _).2 (by omega)]; rfl
        · rw [if_neg h2, (inr_iff _ _ _).2 (by omega), w64s (by omega), hK k hk]; rfl) 0 (Nat.zero_le _)
  obtain ⟨K2, h2⟩ := h
  refine ⟨K1 + K2, fun k hk => ?_⟩
  unfold impl_areCells.f
  rw [h1 k (by omega)]
  simp only [Option.bind_some]
  by_cases g : terrOk x y l s u d t = true
  · rw [if_pos g, g, Bool.true_and]
    exact h2 k (by omega)
  · rw [if_neg g, Bool.eq_false_iff.mpr g, Bool.false_and]
theorem w64p {i : Nat} (m : Nat) (h0 : m ≤ i) (h : i ≤ 9000000000000000000) : wrap64 ((i : Int) - (m : Int)) = ((i - m : Nat) : Int) := by rw [w64 (by omega) (by omega)]; omega
/-- Both walk a way alike; where a cell of it isn't one, the reference says no. -/
theorem way_both {x y : Int} {l : List Int} {s u d t : Int} (T : Terr x y l s u d t) (hxy : (1 ≤ x ∧ x ≤ 8) ∧ 1 ≤ y ∧ y ≤ 6) (c : List Int) (hc : c.length ≤ 1048576) : ∀ e i, i + e = c.length ∨ (e = 0 ∧ i = 1 ∧ c.length ≤ 1) → 1 ≤ i → ∃ g : Bool, (∃ K, ∀ k, K ≤ k → spec_roWay.l0 k c (i : Int) x y l s u d t = some (g && (inr 1 60 (c.length : Int) && c.all (inr 0 (x * y - 1))))) ∧ (c.all (inr 0 (x * y - 1)) = true → ∃ K, ∀ k, K ≤ k → impl_isWay.l0 k c (i : Int) x y l s u d t = some g) ∧ (g = true → ∀ j, i ≤ j → j < c.length → nextTo x (rd c ((j - 1 : Nat) : Int)) (rd c (j : Int)) ∧ ¬ costOf l s u d (rd c ((j - 1 : Nat) : Int)) (rd c (j : Int)) < 0) := by
  have hb := xy_bounds hxy.1 hxy.2
  have hw1 : wrap64 (wrap64 (x * y) - 1) = x * y - 1 := by rw [w64 (x := x * y) (by omega) (by omega), w64 (by omega) (by omega)]
  intro e
  induction e with
  | zero =>
    intro i hi h1
    have hge : ¬ (i : Int) < (c.length : Int) := by omega
    obtain ⟨K, hK⟩ := l1All_ev 0 (x * y - 1) c hc
    refine ⟨true, ev_suc K fun k hk => ?_, fun _ => ev_suc 0 fun k _ => ?_, fun _ j h2 h3 => by omega⟩
    · simp only [spec_roWay.l0]
      rw [if_neg hge, l1In_eq]
      simp only [Option.bind_some]
      by_cases g : inr 1 60 (c.length : Int) = true
      · rw [if_pos g, g, hw1, hK k hk]
        simp
      · rw [if_neg g, Bool.eq_false_iff.mpr g]
        simp
    · simp only [impl_isWay.l0]
      rw [if_neg hge]
  | succ e ih =>
    intro i hi h1
    have hlt : i < c.length := by omega
    have hp : i - 1 < c.length := by omega
    obtain ⟨g, ⟨K, hK⟩, hI, hT⟩ := ih (i + 1) (.inl (by omega)) (by omega)
    have JT : ∀ k, 1 ≤ k → spec_roWay.j1 k c (i : Int) true x y l s u d t = some false := fun k hk => by
      obtain ⟨k, rfl⟩ : ∃ m, k = m + 1 := ⟨k - 1, by omega⟩
      simp only [spec_roWay.j1]
      rw [if_pos trivial]
    have JF : ∀ k, K + 1 ≤ k → spec_roWay.j1 k c (i : Int) false x y l s u d t = some (g && (inr 1 60 (c.length : Int) && c.all (inr 0 (x * y - 1)))) := fun k hk => by
      obtain ⟨k, rfl⟩ : ∃ m, k = m + 1 := ⟨k - 1, by omega⟩
      simp only [spec_roWay.j1]
      rw [if_neg (by simp), w64s (by omega)]
      exact hK k (by omega)
    have hw2 : wrap64 ((i : Int) - 1) = ((i - 1 : Nat) : Int) := w64p 1 h1 (by omega)
    by_cases r1 : inr 0 (x * y - 1) c[i] = true
    rotate_left
    · have hall : c.all (inr 0 (x * y - 1)) = false := by
        rw [List.all_eq_false]
        exact ⟨c[i], List.getElem_mem hlt, by simpa using r1⟩
      refine ⟨false, ev_suc 1 fun k hk => ?_, fun h => by rw [hall] at h; simp at h, fun h => by cases h⟩
      simp only [spec_roWay.l0]
      rw [if_pos (by omega), if_pos (by omega), rd_nat c i hlt, hw1, l1In_eq]
      simp only [Option.bind_some]
      rw [if_neg r1, JT k hk, Bool.false_and]
    by_cases r2 : inr 0 (x * y - 1) c[i - 1] = true
    rotate_left
    · have hall : c.all (inr 0 (x * y - 1)) = false := by
        rw [List.all_eq_false]
        exact ⟨c[i - 1], List.getElem_mem hp, by simpa using r2⟩
      refine ⟨false, ev_suc 1 fun k hk => ?_, fun h => by rw [hall] at h; simp at h, fun h => by cases h⟩
      simp only [spec_roWay.l0]
      rw [if_pos (by omega), if_pos (by omega), rd_nat c i hlt, hw1, l1In_eq]
      simp only [Option.bind_some]
      rw [if_pos r1, hw2, if_pos (by omega), if_pos (by omega), rd_nat c (i - 1) hp, l1In_eq]
      simp only [Option.bind_some]
      rw [if_neg r2, JT k hk, Bool.false_and]
    have q1 := (inr_iff _ _ _).1 r1
    have q2 := (inr_iff _ _ _).1 r2
    have hdir : ∀ k, 10 ≤ k → spec_roDirection.f k x y l s u d t c[i - 1] c[i] = some (dirOf x y c[i - 1] c[i]) := fun k hk => roDirection_ev hxy.1 hxy.2 l s u d t q2.1 (by omega) q1.1 k hk
    have hcost := cost_facts T (a := c[i - 1]) (b := c[i]) ⟨q2.1, by omega⟩ ⟨q1.1, by omega⟩
    have hstep := implStepCost_eq T (a := c[i - 1]) (b := c[i]) ⟨q2.1, by omega⟩ ⟨q1.1, by omega⟩
    have hdn := dir_next (X := x) (Y := y) (a := c[i - 1]) (b := c[i]) hxy.1 hxy.2 ⟨q1.1, by omega⟩
    have head : ∀ k, 10 ≤ k → spec_roWay.l0 (k + 1) c (i : Int) x y l s u d t = (if dirOf x y c[i - 1] c[i] < 0 then spec_roWay.j1 k c (i : Int) true x y l s u d t else if costOf l s u d c[i - 1] c[i] < 0 then spec_roWay.j1 k c (i : Int) true x y l s u d t else if (i : Int) > 1 then (if 0 ≤ wrap64 ((i : Int) - 2) then (if wrap64 ((i : Int) - 2) < (c.length : Int) then spec_roWay.j1 k c (i : Int) (c[i] == rd c (wrap64 ((i : Int) - 2))) x y l s u d t else none) else none) else spec_roWay.j1 k c (i : Int) false x y l s u d t) := fun k hk => by
      simp only [spec_roWay.l0]
      rw [if_pos (by omega), if_pos (by omega), rd_nat c i hlt, hw1, l1In_eq]
      simp only [Option.bind_some]
      rw [if_pos r1, hw2, if_pos (by omega), if_pos (by omega), rd_nat c (i - 1) hp, l1In_eq]
      simp only [Option.bind_some]
      rw [if_pos r2, hdir k hk]
      simp only [Option.bind_some]
      rw [hcost.2.2]
      simp only [Option.bind_some]
    have headI : ∀ k, impl_isWay.l0 (k + 1) c (i : Int) x y l s u d t = (if (if nextTo x c[i - 1] c[i] then costOf l s u d c[i - 1] c[i] else -1) < 0 then impl_isWay.j2 k c (i : Int) true x y l s u d t else if (i : Int) > 1 then (if 0 ≤ wrap64 ((i : Int) - 2) then (if wrap64 ((i : Int) - 2) < (c.length : Int) then impl_isWay.j2 k c (i : Int) (c[i] == rd c (wrap64 ((i : Int) - 2))) x y l s u d t else none) else none) else impl_isWay.j2 k c (i : Int) false x y l s u d t) := fun k => by
      simp only [impl_isWay.l0]
      rw [if_pos (by omega), hw2, if_pos (by omega), if_pos (by omega), if_pos (by omega), rd_nat c i hlt, rd_nat c (i - 1) hp, hstep]
      simp only [Option.bind_some]
    have IT : ∀ k, 1 ≤ k → impl_isWay.j2 k c (i : Int) true x y l s u d t = some false := fun k hk => by
      obtain ⟨k, rfl⟩ : ∃ m, k = m + 1 := ⟨k - 1, by omega⟩
      simp only [impl_isWay.j2]
      rw [if_pos trivial]
    by_cases b1 : nextTo x c[i - 1] c[i]
    rotate_left
    · refine ⟨false, ev_suc 10 fun k hk => ?_, fun _ => ev_suc 1 fun k hk => ?_, fun h => by cases h⟩
      · rw [head k hk, if_pos (by have := mt hdn.1 b1; omega), JT k (by omega), Bool.false_and]
      · rw [headI k, if_neg b1, if_pos (by omega), IT k hk]
    have b1' := hdn.2 b1
    by_cases b2 : costOf l s u d c[i - 1] c[i] < 0
    · refine ⟨false, ev_suc 10 fun k hk => ?_, fun _ => ev_suc 1 fun k hk => ?_, fun h => by cases h⟩
      · rw [head k hk, if_neg (by omega), if_pos b2, JT k (by omega), Bool.false_and]
      · rw [headI k, if_pos b1, if_pos b2, IT k hk]
    have HT : g = true → ∀ j, i ≤ j → j < c.length → nextTo x (rd c ((j - 1 : Nat) : Int)) (rd c (j : Int)) ∧ ¬ costOf l s u d (rd c ((j - 1 : Nat) : Int)) (rd c (j : Int)) < 0 := fun hg j h2 h3 => by
      rcases Nat.lt_or_ge i j with h4 | h4
      · exact hT hg j (by omega) h3
      · obtain rfl : i = j := by omega
        rw [rd_nat c i hlt, rd_nat c (i - 1) hp]
        exact ⟨b1, b2⟩
    have J2 : c.all (inr 0 (x * y - 1)) = true → ∃ K, ∀ k, K ≤ k → impl_isWay.j2 k c (i : Int) false x y l s u d t = some g := fun hall => by
      obtain ⟨K, hK⟩ := hI hall
      refine ev_suc K fun k hk => ?_
      simp only [impl_isWay.j2]
      rw [if_neg (by simp), w64s (by omega)]
      exact hK k hk
    by_cases b3 : (i : Int) > 1
    · have hw3 : wrap64 ((i : Int) - 2) = ((i - 2 : Nat) : Int) := w64p 2 (by omega) (by omega)
      by_cases b4 : c[i] = rd c ((i - 2 : Nat) : Int)
      · refine ⟨false, ev_suc 10 fun k hk => ?_, fun _ => ev_suc 1 fun k hk => ?_, fun h => by cases h⟩
        · rw [head k hk, if_neg (by omega), if_neg b2, if_pos b3, hw3, if_pos (by omega), if_pos (by omega), beq_iff_eq.2 b4, JT k (by omega), Bool.false_and]
        · rw [headI k, if_pos b1, if_neg b2, if_pos b3, hw3, if_pos (by omega), if_pos (by omega), beq_iff_eq.2 b4, IT k hk]
      · refine ⟨g, ev_suc (K + 11) fun k hk => ?_, fun hall => ?_, HT⟩
        · rw [head k (by omega), if_neg (by omega), if_neg b2, if_pos b3, hw3, if_pos (by omega), if_pos (by omega), beq_eq_false_iff_ne.2 b4, JF k (by omega)]
        · obtain ⟨K2, h2⟩ := J2 hall
          refine ev_suc K2 fun k hk => ?_
          rw [headI k, if_pos b1, if_neg b2, if_pos b3, hw3, if_pos (by omega), if_pos (by omega), beq_eq_false_iff_ne.2 b4, h2 k hk]
    · refine ⟨g, ev_suc (K + 11) fun k hk => ?_, fun hall => ?_, HT⟩
      · rw [head k (by omega), if_neg (by omega), if_neg b2, if_neg b3, JF k (by omega)]
      · obtain ⟨K2, h2⟩ := J2 hall
        refine ev_suc K2 fun k hk => ?_
        rw [headI k, if_pos b1, if_neg b2, if_neg b3, h2 k hk]
/-- A way, said by the reference; the program says the same where all cells are cells. -/
theorem way_said {x y : Int} {l : List Int} {s u d t : Int} (T : Terr x y l s u d t) (hxy : (1 ≤ x ∧ x ≤ 8) ∧ 1 ≤ y ∧ y ≤ 6) (c : List Int) (hc : c.length ≤ 1048576) : ∃ g : Bool, (∃ K, ∀ k, K ≤ k → spec_roWay.f k x y l s u d t c = some g) ∧ (c.all (inr 0 (x * y - 1)) = true → ∃ K, ∀ k, K ≤ k → impl_isWay.f k x y l s u d t c = some g) ∧ (c.all (inr 0 (x * y - 1)) = false → g = false) ∧ (g = true → c.length ≤ 60 ∧ (∀ j, j < c.length → 0 ≤ rd c (j : Int) ∧ rd c (j : Int) < x * y) ∧ ∀ j, 1 ≤ j → j < c.length → nextTo x (rd c ((j - 1 : Nat) : Int)) (rd c (j : Int)) ∧ ¬ costOf l s u d (rd c ((j - 1 : Nat) : Int)) (rd c (j : Int)) < 0) := by
  obtain ⟨g, h1, h2, h3⟩ := way_both T hxy c hc (c.length - 1) 1 (by omega) (Nat.le_refl _)
  refine ⟨_, h1, fun hall => ?_, fun hall => by rw [hall]; simp, fun hg => ?_⟩
  rotate_left
  · simp only [Bool.and_eq_true] at hg
    obtain ⟨g1, g2, g3⟩ := hg
    have g4 := (inr_iff _ _ _).1 g2
    refine ⟨by omega, fun j hj => ?_, fun j hj1 hj2 => h3 g1 j hj1 hj2⟩
    have g5 := (inr_iff _ _ _).1 (List.all_eq_true.1 g3 _ (List.getElem_mem hj))
    rw [rd_nat c j hj]
    omega
  obtain ⟨K, hK⟩ := h2 hall
  rw [hall, Bool.and_true]
  refine ⟨K + 1, fun k hk => ?_⟩
  obtain ⟨k, rfl⟩ : ∃ m, k = m + 1 := ⟨k - 1, by omega⟩
  unfold impl_isWay.f
  by_cases n1 : (c.length : Int) < 1
  · rw [if_pos n1]
    simp only [impl_isWay.j0]
    rw [if_pos trivial, (inr_false _ _ _).2 (by omega), Bool.and_false]
  · rw [if_neg n1]
    simp only [impl_isWay.j0]
    by_cases n2 : (c.length : Int) > 60
    · rw [if_pos (decide_eq_true n2), (inr_false _ _ _).2 (by omega), Bool.and_false]
    · rw [if_neg (by simpa using n2), (inr_iff _ _ _).2 (by omega), Bool.and_true]
      exact hK k (by omega)
/-- The direction of a step tells its difference, and the other way round. -/
theorem dir_diff {X Y a b e f : Int} (hX : 1 ≤ X ∧ X ≤ 8) (hY : 1 ≤ Y ∧ Y ≤ 6) (ha : 0 ≤ a ∧ a < X * Y) (hb : 0 ≤ b ∧ b < X * Y) (hc : 0 ≤ e ∧ e < X * Y) (hd : 0 ≤ f ∧ f < X * Y) (n1 : nextTo X a b) (n2 : nextTo X e f) : dirOf X Y a b = dirOf X Y e f ↔ f - e = b - a := by
  obtain ⟨a1, a2, a3, a4, _, _⟩ := cell_coords hX hY ha.1 ha.2
  obtain ⟨b1, b2, b3, b4, _, _⟩ := cell_coords hX hY hb.1 hb.2
  obtain ⟨c1, c2, c3, c4, _, _⟩ := cell_coords hX hY hc.1 hc.2
  obtain ⟨d1, d2, d3, d4, _, _⟩ := cell_coords hX hY hd.1 hd.2
  have h1 := dirOf_eq (a := a) hX.1 hb.1 b4
  have h2 := dirOf_eq (a := e) hX.1 hd.1 d4
  have k1 := (dir_next (a := a) hX hY hb).2 n1
  have k2 := (dir_next (a := e) hX hY hd).2 n2
  have key : ∀ p r : Int, (p / X) * X + p % X = p → (r / X) * X + r % X = r → (r / X = p / X + 1 → r % X = p % X → r - p = X) ∧ (r / X = p / X → r % X = p % X + 1 → r - p = 1) ∧ (r / X = p / X - 1 → r % X = p % X → r - p = -X) ∧ (r / X = p / X → r % X = p % X - 1 → r - p = -1) := by
    intro p r e1 e2
    refine ⟨fun g1 g2 => ?_, fun g1 g2 => ?_, fun g1 g2 => ?_, fun g1 g2 => ?_⟩
    · rw [g1, g2, Int.add_mul] at e2; omega
    · rw [g1, g2] at e2; omega
    · rw [g1, g2, Int.sub_mul] at e2; omega
    · rw [g1, g2] at e2; omega
  obtain ⟨q1, q2, q3, q4⟩ := key a b ((cell_split hX.1 _ _ _ ⟨a1, a2⟩).2 ⟨rfl, rfl⟩) ((cell_split hX.1 _ _ _ ⟨b1, b2⟩).2 ⟨rfl, rfl⟩)
  obtain ⟨r1, r2, r3, r4⟩ := key e f ((cell_split hX.1 _ _ _ ⟨c1, c2⟩).2 ⟨rfl, rfl⟩) ((cell_split hX.1 _ _ _ ⟨d1, d2⟩).2 ⟨rfl, rfl⟩)
  have A : (dirOf X Y a b = 0 ∧ b - a = X) ∨ (dirOf X Y a b = 1 ∧ b - a = 1 ∧ 2 ≤ X) ∨ (dirOf X Y a b = 2 ∧ b - a = -X) ∨ (dirOf X Y a b = 3 ∧ b - a = -1 ∧ 2 ≤ X) := by
    obtain ⟨z0, z1, z2, z3, z4⟩ := h1
    rcases z4 with z | z | z | z | z
    · omega
    · exact .inl ⟨z, q1 (z0.1 z).2 (z0.1 z).1⟩
    · exact .inr (.inl ⟨z, q2 (z1.1 z).2 (z1.1 z).1, by have := (z1.1 z).1; omega⟩)
    · exact .inr (.inr (.inl ⟨z, q3 (z2.1 z).2 (z2.1 z).1⟩))
    · exact .inr (.inr (.inr ⟨z, q4 (z3.1 z).2 (z3.1 z).1, by have := (z3.1 z).1; omega⟩))
  have B : (dirOf X Y e f = 0 ∧ f - e = X) ∨ (dirOf X Y e f = 1 ∧ f - e = 1 ∧ 2 ≤ X) ∨ (dirOf X Y e f = 2 ∧ f - e = -X) ∨ (dirOf X Y e f = 3 ∧ f - e = -1 ∧ 2 ≤ X) := by
    obtain ⟨z0, z1, z2, z3, z4⟩ := h2
    rcases z4 with z | z | z | z | z
    · omega
    · exact .inl ⟨z, r1 (z0.1 z).2 (z0.1 z).1⟩
    · exact .inr (.inl ⟨z, r2 (z1.1 z).2 (z1.1 z).1, by have := (z1.1 z).1; omega⟩)
    · exact .inr (.inr (.inl ⟨z, r3 (z2.1 z).2 (z2.1 z).1⟩))
    · exact .inr (.inr (.inr ⟨z, r4 (z3.1 z).2 (z3.1 z).1, by have := (z3.1 z).1; omega⟩))
  clear h1 h2 key q1 q2 q3 q4 r1 r2 r3 r4 k1 k2 n1 n2
  omega
def turnsTo (c : List Int) (i : Nat) : Int := (((List.range c.length).drop i).countP fun (j : Nat) => decide (¬ rd c (j : Int) - rd c ((j - 1 : Nat) : Int) = rd c ((j - 1 : Nat) : Int) - rd c ((j - 2 : Nat) : Int)) : Nat)
theorem turnsTo_step (c : List Int) (i : Nat) (h : i < c.length) : turnsTo c i = (if rd c (i : Int) - rd c ((i - 1 : Nat) : Int) = rd c ((i - 1 : Nat) : Int) - rd c ((i - 2 : Nat) : Int) then 0 else 1) + turnsTo c (i + 1) := by
  unfold turnsTo
  rw [List.drop_eq_getElem_cons (by simpa using h), List.countP_cons]
  simp only [List.getElem_range]
  by_cases g : rd c (i : Int) - rd c ((i - 1 : Nat) : Int) = rd c ((i - 1 : Nat) : Int) - rd c ((i - 2 : Nat) : Int)
  · simp [g]
  · simp [g]; omega
theorem turnsTo_bound (c : List Int) (i : Nat) : 0 ≤ turnsTo c i ∧ turnsTo c i ≤ c.length := by
  unfold turnsTo
  have h := List.countP_le_length (p := fun j : Nat => decide (¬ rd c (j : Int) - rd c ((j - 1 : Nat) : Int) = rd c ((j - 1 : Nat) : Int) - rd c ((j - 2 : Nat) : Int))) (l := (List.range c.length).drop i)
  rw [List.length_drop, List.length_range] at h
  omega
theorem turns_both {x y : Int} {l : List Int} {s u d t : Int} (hxy : (1 ≤ x ∧ x ≤ 8) ∧ 1 ≤ y ∧ y ≤ 6) (c : List Int) (hc : c.length ≤ 60) (hin : ∀ j, j < c.length → 0 ≤ rd c (j : Int) ∧ rd c (j : Int) < x * y) (hs : ∀ j, 1 ≤ j → j < c.length → nextTo x (rd c ((j - 1 : Nat) : Int)) (rd c (j : Int))) : ∀ e i, (i + e = c.length ∨ (e = 0 ∧ i = 2 ∧ c.length ≤ 2)) → 2 ≤ i → ∀ z : Int, 0 ≤ z → z ≤ (i : Int) → (∃ K, ∀ k, K ≤ k → spec_roTurns.l0 k c z (i : Int) x y l s u d t = some (z + turnsTo c i)) ∧ ∃ K, ∀ k, K ≤ k → impl_turnsOf.l0 k c z (i : Int) = some (z + turnsTo c i) := by
  have hb := xy_bounds hxy.1 hxy.2
  intro e
  induction e with
  | zero =>
    intro i hi h2 z hz hz2
    have hge : ¬ (i : Int) < (c.length : Int) := by omega
    have h0 : turnsTo c i = 0 := by unfold turnsTo; rw [List.drop_of_length_le (by simp; omega)]; rfl
    exact ⟨ev_suc 0 fun k _ => by simp only [spec_roTurns.l0]; rw [if_neg hge, h0, Int.add_zero], ev_suc 0 fun k _ => by simp only [impl_turnsOf.l0]; rw [if_neg hge, h0, Int.add_zero]⟩
  | succ e ih =>
    intro i hi h2 z hz hz2
    have hlt : i < c.length := by omega
    have w1 : wrap64 ((i : Int) - 1) = ((i - 1 : Nat) : Int) := w64p 1 (by omega) (by omega)
    have w2 : wrap64 ((i : Int) - 2) = ((i - 2 : Nat) : Int) := w64p 2 (by omega) (by omega)
    have r0 := hin i hlt
    have r1 := hin (i - 1) (by omega)
    have r2 := hin (i - 2) (by omega)
    have s0 := hs i (by omega) hlt
    have s1 := hs (i - 1) (by omega) (by omega)
    rw [show i - 1 - 1 = i - 2 from by omega] at s1
    have hdd := dir_diff hxy.1 hxy.2 r2 r1 r1 r0 s1 s0
    have d1 : ∀ k, 10 ≤ k → spec_roDirection.f k x y l s u d t (rd c ((i - 2 : Nat) : Int)) (rd c ((i - 1 : Nat) : Int)) = some (dirOf x y (rd c ((i - 2 : Nat) : Int)) (rd c ((i - 1 : Nat) : Int))) := fun k hk => roDirection_ev hxy.1 hxy.2 l s u d t r2.1 r2.2 r1.1 k hk
    have d2 : ∀ k, 10 ≤ k → spec_roDirection.f k x y l s u d t (rd c ((i - 1 : Nat) : Int)) (rd c (i : Int)) = some (dirOf x y (rd c ((i - 1 : Nat) : Int)) (rd c (i : Int))) := fun k hk => roDirection_ev hxy.1 hxy.2 l s u d t r1.1 r1.2 r0.1 k hk
    have e1 : wrap64 (rd c (i : Int) - rd c ((i - 1 : Nat) : Int)) = rd c (i : Int) - rd c ((i - 1 : Nat) : Int) := w64 (by omega) (by omega)
    have e2 : wrap64 (rd c ((i - 1 : Nat) : Int) - rd c ((i - 2 : Nat) : Int)) = rd c ((i - 1 : Nat) : Int) - rd c ((i - 2 : Nat) : Int) := w64 (by omega) (by omega)
    have tb := turnsTo_step c i hlt
    by_cases g : rd c (i : Int) - rd c ((i - 1 : Nat) : Int) = rd c ((i - 1 : Nat) : Int) - rd c ((i - 2 : Nat) : Int)
    · obtain ⟨⟨K1, q1⟩, K2, q2⟩ := ih (i + 1) (.inl (by omega)) (by omega) z hz (by omega)
      rw [if_pos g, Int.zero_add] at tb
      refine ⟨ev_suc (K1 + 10) fun k hk => ?_, ev_suc K2 fun k hk => ?_⟩
      · simp only [spec_roTurns.l0]
        rw [if_pos (by omega), w2, w1, if_pos (by omega), if_pos (by omega), if_pos (by omega), if_pos (by omega), d1 k (by omega)]
        simp only [Option.bind_some]
        rw [if_pos (by omega), d2 k (by omega)]
        simp only [Option.bind_some]
        rw [if_pos (hdd.2 g), w64s (by omega), tb]
        exact q1 k (by omega)
      · simp only [impl_turnsOf.l0]
        rw [if_pos (by omega), if_pos (by omega), w1, if_pos (by omega), if_pos (by omega), w2, if_pos (by omega), if_pos (by omega), e1, e2, if_pos g, w64s (by omega), tb]
        exact q2 k hk
    · obtain ⟨⟨K1, q1⟩, K2, q2⟩ := ih (i + 1) (.inl (by omega)) (by omega) (z + 1) (by omega) (by omega)
      rw [if_neg g] at tb
      have hz1 : wrap64 (z + 1) = z + 1 := w64 (by omega) (by omega)
      rw [show z + turnsTo c i = z + 1 + turnsTo c (i + 1) from by omega]
      refine ⟨ev_suc (K1 + 10) fun k hk => ?_, ev_suc K2 fun k hk => ?_⟩
      · simp only [spec_roTurns.l0]
        rw [if_pos (by omega), w2, w1, if_pos (by omega), if_pos (by omega), if_pos (by omega), if_pos (by omega), d1 k (by omega)]
        simp only [Option.bind_some]
        rw [if_pos (by omega), d2 k (by omega)]
        simp only [Option.bind_some]
        rw [if_neg (fun h => g (hdd.1 h)), w64s (by omega), hz1]
        exact q1 k (by omega)
      · simp only [impl_turnsOf.l0]
        rw [if_pos (by omega), if_pos (by omega), w1, if_pos (by omega), if_pos (by omega), w2, if_pos (by omega), if_pos (by omega), e1, e2, if_neg g, w64s (by omega), hz1]
        exact q2 k hk
theorem turns_ev {x y : Int} {l : List Int} {s u d t : Int} (hxy : (1 ≤ x ∧ x ≤ 8) ∧ 1 ≤ y ∧ y ≤ 6) (c : List Int) (hc : c.length ≤ 60) (hin : ∀ j, j < c.length → 0 ≤ rd c (j : Int) ∧ rd c (j : Int) < x * y) (hs : ∀ j, 1 ≤ j → j < c.length → nextTo x (rd c ((j - 1 : Nat) : Int)) (rd c (j : Int))) : (∃ K, ∀ k, K ≤ k → spec_roTurns.f k x y l s u d t c = some (turnsTo c 2)) ∧ ∃ K, ∀ k, K ≤ k → impl_turnsOf.f k c = some (turnsTo c 2) := by
  have h := turns_both (l := l) (s := s) (u := u) (d := d) (t := t) hxy c hc hin hs (c.length - 2) 2 (by omega) (Nat.le_refl _) 0 (by omega) (by omega)
  rw [Int.zero_add] at h
  exact h
def costFrom (l : List Int) (s u d : Int) (c : List Int) (i : Nat) : Int := (((List.range c.length).drop i).map fun (j : Nat) => costOf l s u d (rd c ((j - 1 : Nat) : Int)) (rd c (j : Int))).sum
theorem costFrom_step (l : List Int) (s u d : Int) (c : List Int) (i : Nat) (h : i < c.length) : costFrom l s u d c i = costOf l s u d (rd c ((i - 1 : Nat) : Int)) (rd c (i : Int)) + costFrom l s u d c (i + 1) := by
  unfold costFrom
  rw [List.drop_eq_getElem_cons (by simpa using h), List.map_cons, List.sum_cons]
  simp only [List.getElem_range]
theorem costs_both {x y : Int} {l : List Int} {s u d t : Int} (T : Terr x y l s u d t) (c : List Int) (hc : c.length ≤ 60) (hin : ∀ j, j < c.length → 0 ≤ rd c (j : Int) ∧ rd c (j : Int) < x * y) (hs : ∀ j, 1 ≤ j → j < c.length → nextTo x (rd c ((j - 1 : Nat) : Int)) (rd c (j : Int)) ∧ ¬ costOf l s u d (rd c ((j - 1 : Nat) : Int)) (rd c (j : Int)) < 0) : ∀ e i, (i + e = c.length ∨ (e = 0 ∧ i = 1 ∧ c.length ≤ 1)) → 1 ≤ i → ∀ z : Int, 0 ≤ z → z ≤ 100000 * (i : Int) → (∃ K, ∀ k, K ≤ k → spec_WayCost.l0 k c z (i : Int) x y l s u d t = some (z + costFrom l s u d c i, true)) ∧ ∃ K, ∀ k, K ≤ k → impl_WayCost.l0 k c z (i : Int) x y l s u d t = some (z + costFrom l s u d c i, true) := by
  intro e
  induction e with
  | zero =>
    intro i hi h2 z hz hz2
    have hge : ¬ (i : Int) < (c.length : Int) := by omega
    have h0 : costFrom l s u d c i = 0 := by unfold costFrom; rw [List.drop_of_length_le (by simp; omega)]; rfl
    exact ⟨ev_suc 0 fun k _ => by simp only [spec_WayCost.l0]; rw [if_neg hge, h0, Int.add_zero], ev_suc 0 fun k _ => by simp only [impl_WayCost.l0]; rw [if_neg hge, h0, Int.add_zero]⟩
  | succ e ih =>
    intro i hi h2 z hz hz2
    have hlt : i < c.length := by omega
    have w1 : wrap64 ((i : Int) - 1) = ((i - 1 : Nat) : Int) := w64p 1 (by omega) (by omega)
    have r0 := hin i hlt
    have r1 := hin (i - 1) (by omega)
    obtain ⟨s0, s1⟩ := hs i (by omega) hlt
    obtain ⟨f1, f2, f3⟩ := cost_facts T r1 r0
    have f4 := implStepCost_eq T r1 r0
    rw [if_pos s0] at f4
    have tb := costFrom_step l s u d c i hlt
    obtain ⟨⟨K1, q1⟩, K2, q2⟩ := ih (i + 1) (.inl (by omega)) (by omega) (z + costOf l s u d (rd c ((i - 1 : Nat) : Int)) (rd c (i : Int))) (by omega) (by omega)
    have hw : wrap64 (z + costOf l s u d (rd c ((i - 1 : Nat) : Int)) (rd c (i : Int))) = z + costOf l s u d (rd c ((i - 1 : Nat) : Int)) (rd c (i : Int)) := w64 (by omega) (by omega)
    rw [tb, ← Int.add_assoc]
    refine ⟨ev_suc K1 fun k hk => ?_, ev_suc K2 fun k hk => ?_⟩
    · simp only [spec_WayCost.l0]
      rw [if_pos (by omega), w1, if_pos (by omega), if_pos (by omega), if_pos (by omega), f3]
      simp only [Option.bind_some]
      rw [hw, w64s (by omega)]
      exact q1 k hk
    · simp only [impl_WayCost.l0]
      rw [if_pos (by omega), w1, if_pos (by omega), if_pos (by omega), if_pos (by omega), f4]
      simp only [Option.bind_some]
      rw [hw, w64s (by omega)]
      exact q2 k hk
theorem wayCost_both (x y : Int) (l : List Int) (s u d t : Int) (hl : l.length ≤ 1048576) (c : List Int) (hc : c.length ≤ 1048576) : ∃ r, (∃ K, ∀ k, K ≤ k → spec_WayCost.f k x y l s u d t c = some r) ∧ ∃ K, ∀ k, K ≤ k → impl_WayCost.f k x y l s u d t c = some r := by
  obtain ⟨K1, h1⟩ := roGood_ev x y l s u d t hl
  obtain ⟨K3, h3⟩ := areCells_ev x y l s u d t hl c hc
  have JS : ∀ k, 1 ≤ k → spec_WayCost.j0 k c true x y l s u d t = some (0, false) := fun k hk => by
    obtain ⟨k, rfl⟩ : ∃ m, k = m + 1 := ⟨k - 1, by omega⟩
    simp only [spec_WayCost.j0]
    rw [if_pos trivial]
  have JI : ∀ k, 1 ≤ k → impl_WayCost.j0 k c true x y l s u d t = some (0, false) := fun k hk => by
    obtain ⟨k, rfl⟩ : ∃ m, k = m + 1 := ⟨k - 1, by omega⟩
    simp only [impl_WayCost.j0]
    rw [if_pos trivial]
  by_cases g : terrOk x y l s u d t = true
  · have T := (terrOk_iff x y l s u d t).1 g
    have hxy : (1 ≤ x ∧ x ≤ 8) ∧ 1 ≤ y ∧ y ≤ 6 := ⟨T.x, T.y⟩
    have hlen := T.len
    obtain ⟨w, ⟨K4, h4⟩, h5, h6, h7⟩ := way_said T hxy c hc
    rw [g, Bool.true_and, hlen] at h3
    by_cases a : c.all (inr 0 (x * y - 1)) = true
    · obtain ⟨K5, h5⟩ := h5 a
      by_cases b : w = true
      · obtain ⟨h8, h9, h10⟩ := h7 b
        obtain ⟨⟨K6, h11⟩, K7, h12⟩ := turns_ev (l := l) (s := s) (u := u) (d := d) (t := t) hxy c h8 h9 (fun j j1 j2 => (h10 j j1 j2).1)
        have tb := turnsTo_bound c 2
        have ht := T.t
        have hm : 0 ≤ turnsTo c 2 * t ∧ turnsTo c 2 * t ≤ 6000 := ⟨Int.mul_nonneg tb.1 ht.1, by have := Int.mul_le_mul (show turnsTo c 2 ≤ 60 from by omega) ht.2 ht.1 (by omega : (0:Int) ≤ 60); omega⟩
        have hm2 : t * turnsTo c 2 = turnsTo c 2 * t := Int.mul_comm _ _
        have hw : wrap64 (turnsTo c 2 * t) = turnsTo c 2 * t := w64 (by omega) (by omega)
        obtain ⟨⟨K8, h13⟩, K9, h14⟩ := costs_both T c h8 h9 h10 (c.length - 1) 1 (by omega) (Nat.le_refl _) (turnsTo c 2 * t) hm.1 (by omega)
        refine ⟨(turnsTo c 2 * t + costFrom l s u d c 1, true), ⟨K1 + K4 + K6 + K8 + 1, fun k hk => ?_⟩, ⟨K3 + K5 + K7 + K9 + 1, fun k hk => ?_⟩⟩
        · obtain ⟨k, rfl⟩ : ∃ m, k = m + 1 := ⟨k - 1, by omega⟩
          unfold spec_WayCost.f
          rw [h1 (k + 1) (by omega)]
          simp only [Option.bind_some]
          rw [if_pos g, h4 (k + 1) (by omega)]
          simp only [Option.bind_some, b, Bool.not_true, spec_WayCost.j0]
          rw [if_neg (by simp), h11 k (by omega)]
          simp only [Option.bind_some]
          rw [hm2, hw]
          exact h13 k (by omega)
        · obtain ⟨k, rfl⟩ : ∃ m, k = m + 1 := ⟨k - 1, by omega⟩
          unfold impl_WayCost.f
          rw [h3 (k + 1) (by omega)]
          simp only [Option.bind_some]
          rw [if_pos a, h5 (k + 1) (by omega)]
          simp only [Option.bind_some, b, Bool.not_true, impl_WayCost.j0]
          rw [if_neg (by simp), h12 k (by omega)]
          simp only [Option.bind_some]
          rw [hw]
          exact h14 k (by omega)
      · have b' := Bool.eq_false_iff.mpr b
        refine ⟨(0, false), ⟨K1 + K4 + 1, fun k hk => ?_⟩, ⟨K3 + K5 + 1, fun k hk => ?_⟩⟩
        · unfold spec_WayCost.f
          rw [h1 k (by omega)]
          simp only [Option.bind_some]
          rw [if_pos g, h4 k (by omega)]
          simp only [Option.bind_some, b', Bool.not_false]
          exact JS k (by omega)
        · unfold impl_WayCost.f
          rw [h3 k (by omega)]
          simp only [Option.bind_some]
          rw [if_pos a, h5 k (by omega)]
          simp only [Option.bind_some, b', Bool.not_false]
          exact JI k (by omega)
    · have hw := h6 (Bool.eq_false_iff.mpr a)
      subst hw
      refine ⟨(0, false), ⟨K1 + K4 + 1, fun k hk => ?_⟩, ⟨K3 + 1, fun k hk => ?_⟩⟩
      · unfold spec_WayCost.f
        rw [h1 k (by omega)]
        simp only [Option.bind_some]
        rw [if_pos g, h4 k (by omega)]
        simp only [Option.bind_some, Bool.not_false]
        exact JS k (by omega)
      · unfold impl_WayCost.f
        rw [h3 k (by omega)]
        simp only [Option.bind_some]
        rw [if_neg a]
        exact JI k (by omega)
  · refine ⟨(0, false), ⟨K1 + 1, fun k hk => ?_⟩, ⟨K3 + 1, fun k hk => ?_⟩⟩
    · unfold spec_WayCost.f
      rw [h1 k (by omega)]
      simp only [Option.bind_some]
      rw [if_neg g]
      exact JS k (by omega)
    · unfold impl_WayCost.f
      rw [h3 k (by omega), Bool.eq_false_iff.mpr g]
      simp only [Option.bind_some, Bool.false_and, Bool.false_eq_true, if_false]
      exact JI k (by omega)
theorem FnExactWayCost (x y : Int) (l : List Int) (s u d t : Int) (c : List Int) (_ : (Lit.int .i64 x).wf = true) (_ : (Lit.int .i64 y).wf = true) (hl : l.length ≤ maxLen) (_ : ∀ z ∈ l, (Lit.int .i64 z).wf = true) (_ : (Lit.int .i64 s).wf = true) (_ : (Lit.int .i64 u).wf = true) (_ : (Lit.int .i64 d).wf = true) (_ : (Lit.int .i64 t).wf = true) (hc : c.length ≤ maxLen) (_ : ∀ z ∈ c, (Lit.int .i64 z).wf = true) : ∃ k, laws_FnExactWayCost.f k x y l s u d t c = some true := by
  by_cases hc0 : (c.length : Int) > 1048576
  · refine ⟨0, ?_⟩
    simp only [laws_FnExactWayCost.f, hc0, if_true]
  obtain ⟨z, h0, hs⟩ := szTerrain_ev x y l s u d t 1048576 (by omega) hl
  by_cases hneg : z < 0
  · refine ⟨0, ?_⟩
    simp only [laws_FnExactWayCost.f, hc0, if_false, h0, Option.bind_some, hneg, if_true]
  · have hs2 := hs (by omega)
    obtain ⟨K1, h1⟩ := toTerrain_ev x y l s u d t (by omega)
    obtain ⟨r, ⟨K2, h2⟩, K3, h3⟩ := wayCost_both x y l s u d t (by omega) c (by omega)
    obtain ⟨K4, h4⟩ := eqTerrain_ev x y l s u d t (by omega)
    obtain ⟨K5, h5⟩ := toIntS_ev c (by omega)
    obtain ⟨K6, h6⟩ := eqIntS_ev c (by omega)
    refine ⟨K1 + K2 + K3 + K4 + K5 + K6 + 1, ?_⟩
    simp (disch := omega) only [laws_FnExactWayCost.f, hc0, h0, h1, h2, h3, h5, Option.bind_some, hneg, if_true, if_false, bne_self_eq_false, Bool.false_eq_true]
    simp (disch := omega) only [laws_FnExactWayCost.j0, h1, h4, h5, h6, Option.bind_some, if_true, if_false, Bool.false_eq_true]

end Go.Proofs.Ytbgjhdhdfdfpkaa.Pure
