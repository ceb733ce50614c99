/- THE PURE SIDE OF FnExactLeastSteep: the printed functions of the reference and of the program give the same results. Plain Lean: no memory and no Go. -/
import Derived.Test.YtbgjhdhdfdfpkaaDoorPFnExactLeastSteepx8
import Derived.OpenShut
namespace Go.Proofs.YtbgjhdhdfdfpkaaDoor.Pure
open Go.RowKit Go.Proofs.YtbgjhdhdfdfpkaaDoor.PFnExactLeastSteep Go.Proofs.YtbgjhdhdfdfpkaaDoorW.PrintWords Go.Proofs.YtbgjhdhdfdfpkaaDoorW.PrintLast Go.Proofs.YtbgjhdhdfdfpkaaDoorW.PrintMore
set_option linter.unusedVariables false
set_option linter.unusedSimpArgs false

theorem w64 {x : Int} (h1 : -9223372036854775808 ≤ x) (h2 : x ≤ 9223372036854775807) : wrap64 x = x := by unfold wrap64; omega
theorem w64s {i : Nat} (h : i ≤ 9000000000000000000) : wrap64 ((i : Int) + 1) = ((i + 1 : Nat) : Int) := by rw [w64 (by omega) (by omega)]; omega
theorem rd_nat (l : List Int) (i : Nat) (h : i < l.length) : rd l (i : Int) = l[i] := by simp [rd, List.getD_eq_getElem?_getD, h]
theorem wf64 {x : Int} (h : (Lit.int .i64 x).wf = true) : -9223372036854775808 ≤ x ∧ x ≤ 9223372036854775807 := by
  have := bounds_i64 h
  omega
def inr (lo hi x : Int) : Bool := decide (lo ≤ x) && decide (x ≤ hi)
theorem inr_iff (lo hi x : Int) : inr lo hi x = true ↔ lo ≤ x ∧ x ≤ hi := by simp [inr]
theorem inr_false (lo hi x : Int) : inr lo hi x = false ↔ ¬ (lo ≤ x ∧ x ≤ hi) := by rw [← inr_iff, Bool.not_eq_true]
theorem mx_of_lt {a b : Int} (h : a < b) : mx a b = b := if_pos h
theorem mx_of_ge {a b : Int} (h : b ≤ a) : mx a b = a := if_neg (by omega)
theorem mx_spec (a b : Int) : a ≤ mx a b ∧ b ≤ mx a b ∧ (mx a b = a ∨ mx a b = b) := by unfold mx; split <;> omega
theorem l1In_eq (a b c : Int) : spec_l1In.f a b c = some (inr b c a) := by
  unfold spec_l1In.f inr
  by_cases h : a ≥ b
  · rw [if_pos h]; simp [show b ≤ a from h]
  · rw [if_neg h]; simp [show ¬ b ≤ a from h]
theorem l1Most_eq (a b : Int) : spec_l1Most.f a b = some (mx a b) := by
  unfold spec_l1Most.f mx
  by_cases h : a > b
  · rw [if_pos h, if_neg (by omega)]
  · rw [if_neg h]
    by_cases h2 : a < b
    · rw [if_pos h2]
    · rw [if_neg h2, show a = b from by omega]
theorem l1All_l0 (lo hi : Int) (l : List Int) (hl : l.length ≤ 9000000000000000000) : ∀ (d k i : Nat), i + d = l.length → d < k → spec_l1All.l0 k lo hi l (l.length : Int) (i : Int) = some ((l.drop i).all (inr lo hi)) := by
  intro d
  induction d with
  | zero =>
    intro k i hi' hk
    obtain ⟨k, rfl⟩ : ∃ m, k = m + 1 := ⟨k - 1, by omega⟩
    simp only [spec_l1All.l0]
    rw [if_neg (by omega), List.drop_of_length_le (by omega)]; rfl
  | succ d ih =>
    intro k i hi' hk
    obtain ⟨k, rfl⟩ : ∃ m, k = m + 1 := ⟨k - 1, by omega⟩
    have hlt : i < l.length := by omega
    simp only [spec_l1All.l0]
    rw [if_pos (by omega), if_pos (by omega), if_pos (by omega), l1In_eq, List.drop_eq_getElem_cons hlt, List.all_cons, rd_nat l i hlt, w64s (by omega), ih k (i + 1) (by omega) (by omega)]
    simp only [Option.bind_some]
    by_cases h : inr lo hi l[i] = true
    · rw [if_pos h, h, Bool.true_and]
    · rw [if_neg h, Bool.eq_false_iff.mpr h, Bool.false_and]
theorem l1All_eq (lo hi : Int) (l : List Int) (hl : l.length ≤ 9000000000000000000) (k : Nat) (hk : l.length < k) : spec_l1All.f k l lo hi = some (l.all (inr lo hi)) := by
  unfold spec_l1All.f
  exact l1All_l0 lo hi l hl l.length k 0 (by omega) hk
theorem eqIntS_l0 (l : List Int) (hl : l.length ≤ 9000000000000000000) : ∀ (d k i : Nat), i + d = l.length → d < k → laws_eqIntS.l0 k l l (i : Int) = some true := by
  intro d
  induction d with
  | zero =>
    intro k i hi' hk
    obtain ⟨k, rfl⟩ : ∃ m, k = m + 1 := ⟨k - 1, by omega⟩
    simp only [laws_eqIntS.l0]
    rw [if_neg (by omega)]
  | succ d ih =>
    intro k i hi' hk
    obtain ⟨k, rfl⟩ : ∃ m, k = m + 1 := ⟨k - 1, by omega⟩
    simp only [laws_eqIntS.l0]
    rw [if_pos (by omega), if_pos (by omega), if_pos (by omega), if_pos trivial, w64s (by omega)]
    exact ih k (i + 1) (by omega) (by omega)
theorem eqIntS_self (l : List Int) (hl : l.length ≤ 9000000000000000000) (k : Nat) (hk : l.length < k) : laws_eqIntS.f k l l = some true := by
  unfold laws_eqIntS.f
  rw [if_pos rfl]
  exact eqIntS_l0 l hl l.length k 0 (by omega) hk
theorem ev_loop {β : Type} {F : Nat → Nat → Option β} {n : Nat} {res : Nat → β} (last : ∃ K, ∀ k, K ≤ k → F k n = some (res n)) (step : ∀ i, i < n → ∀ K, (∀ k, K ≤ k → F k (i + 1) = some (res (i + 1))) → ∃ K, ∀ k, K ≤ k → F k i = some (res i)) : ∀ i, i ≤ n → ∃ K, ∀ k, K ≤ k → F k i = some (res i) := by
  have key : ∀ d i, i + d = n → ∃ K, ∀ k, K ≤ k → F k i = some (res i) := by
    intro d
    induction d with
    | zero => intro i h; obtain rfl : i = n := by omega
              exact last
    | succ d ih =>
      intro i h
      obtain ⟨K, hK⟩ := ih (i + 1) (by omega)
      exact step i (by omega) K hK
  exact fun i h => key (n - i) i (by omega)
/-- One round more. -/
theorem ev_suc {β : Type} {g : Nat → Option β} {r : β} (K : Nat) (h : ∀ k, K ≤ k → g (k + 1) = some r) : ∃ K, ∀ k, K ≤ k → g k = some r :=
  ⟨K + 1, fun k hk => by obtain ⟨k, rfl⟩ : ∃ m, k = m + 1 := ⟨k - 1, by omega⟩; exact h k (by omega)⟩
theorem fill_step {α : Type} (l : List α) (z : α) (i : Nat) (h : i < l.length) : (l.take i ++ List.replicate (l.length - i) z).set i l[i] = l.take (i + 1) ++ List.replicate (l.length - (i + 1)) z := by
  have e : l.length - i = (l.length - (i + 1)) + 1 := by omega
  rw [List.set_append_right _ _ (by rw [List.length_take]; omega), List.length_take, Nat.min_eq_left (by omega), Nat.sub_self, e, List.replicate_succ, List.set_cons_zero, List.take_succ_eq_append_getElem h, List.append_assoc, List.singleton_append]
theorem fill_length {α : Type} (l : List α) (z : α) (i : Nat) (h : i ≤ l.length) : (l.take i ++ List.replicate (l.length - i) z).length = l.length := by
  rw [List.length_append, List.length_take, List.length_replicate]; omega
theorem fill_last {α : Type} (l : List α) (z : α) : l.take l.length ++ List.replicate (l.length - l.length) z = l := by simp
/-- What 'sz' leaves: where it isn't below 0, the row is no longer than that. -/
theorem szIntS_ev (l : List Int) (a : Int) (ha : 0 ≤ a ∧ a ≤ 1048576) (hl : l.length ≤ maxLen) : ∃ r, laws_szIntS.f l a = some r ∧ (0 ≤ r → r = a - l.length) ∧ (r < 0 → a < l.length) := by
  simp only [maxLen] at hl
  unfold laws_szIntS.f
  rw [w64 (by omega) (by omega)]
  by_cases h : a - (l.length : Int) < 0
  · exact ⟨-1, by rw [if_pos h], fun h2 => by omega, fun _ => by omega⟩
  · exact ⟨a - (l.length : Int), by rw [if_neg h], fun _ => rfl, fun h2 => by omega⟩
theorem toIntS_ev (l : List Int) (hl : l.length ≤ 1048576) : ∃ K, ∀ k, K ≤ k → laws_toIntS.f k l = some l := by
  have h := ev_loop (F := fun k i => laws_toIntS.l0 k l (l.take i ++ List.replicate (l.length - i) 0) (i : Int)) (n := l.length) (res := fun _ => l)
    (ev_suc 0 fun k _ => by simp only [laws_toIntS.l0]; rw [if_neg (by omega), fill_last])
    (fun i hi K hK => ev_suc K fun k hk => by
      simp only [laws_toIntS.l0]
      rw [if_pos (by omega), if_pos (by omega), if_pos (by rw [fill_length l 0 i (by omega)]; omega), Int.toNat_natCast, rd_nat l i hi, fill_step l 0 i hi, w64s (by omega)]
      exact hK k hk) 0 (Nat.zero_le _)
  obtain ⟨K, h⟩ := h
  refine ⟨K, fun k hk => ?_⟩
  unfold laws_toIntS.f
  rw [if_pos (by omega), if_pos (by omega), Int.toNat_natCast]
  simpa using h k hk
theorem eqIntS_ev (l : List Int) (hl : l.length ≤ 1048576) : ∃ K, ∀ k, K ≤ k → laws_eqIntS.f k l l = some true :=
  ⟨l.length + 1, fun k hk => eqIntS_self l (by omega) k (by omega)⟩
theorem l1All_ev (lo hi : Int) (l : List Int) (hl : l.length ≤ 1048576) : ∃ K, ∀ k, K ≤ k → spec_l1All.f k l lo hi = some (l.all (inr lo hi)) :=
  ⟨l.length + 1, fun k hk => l1All_eq lo hi l (by omega) k (by omega)⟩

theorem szTerrain_ev (x y : Int) (l : List Int) (s u d t : Int) (a : Int) (ha : 0 ≤ a ∧ a ≤ 1048576) (hl : l.length ≤ maxLen) : ∃ r, laws_szTerrain.f x y l s u d t a = some r ∧ (0 ≤ r → (l.length : Int) ≤ a) := by
  unfold laws_szTerrain.f
  obtain ⟨r1, h1, h2, h3⟩ := szIntS_ev l a ha hl
  rw [h1]
  simp only [Option.bind_some]
  by_cases n1 : r1 < 0
  · exact ⟨-1, by rw [if_pos n1], fun h => by omega⟩
  · exact ⟨r1, by rw [if_neg n1], fun h => by have := h2 h; omega⟩
theorem toTerrain_ev (x y : Int) (l : List Int) (s u d t : Int) (hl : l.length ≤ 1048576) : ∃ K, ∀ k, K ≤ k → laws_toTerrain.f k x y l s u d t = some (x, y, l, s, u, d, t) := by
  obtain ⟨K1, h1⟩ := toIntS_ev l hl
  exact ⟨K1, fun k hk => by simp (disch := omega) only [laws_toTerrain.f, h1, Option.bind_some]⟩
theorem eqTerrain_ev (x y : Int) (l : List Int) (s u d t : Int) (hl : l.length ≤ 1048576) : ∃ K, ∀ k, K ≤ k → laws_eqTerrain.f k x y l s u d t x y l s u d t = some true := by
  obtain ⟨K1, h1⟩ := eqIntS_ev l hl
  exact ⟨K1, fun k hk => by simp (disch := omega) only [laws_eqTerrain.f, h1, Option.bind_some, if_true]⟩
def terrOk (x y : Int) (l : List Int) (s u d t : Int) : Bool := inr 1 8 x && (inr 1 6 y && (decide ((l.length : Int) = x * y) && (l.all (inr 0 200) && (inr 0 200 s && [u, d, t].all (inr 0 100)))))
structure Terr (X Y : Int) (H : List Int) (S U D R : Int) : Prop where
  x : 1 ≤ X ∧ X ≤ 8
  y : 1 ≤ Y ∧ Y ≤ 6
  len : (H.length : Int) = X * Y
  all : ∀ h ∈ H, 0 ≤ h ∧ h ≤ 200
  s : 0 ≤ S ∧ S ≤ 200
  u : 0 ≤ U ∧ U ≤ 100
  d : 0 ≤ D ∧ D ≤ 100
  t : 0 ≤ R ∧ R ≤ 100
theorem terrOk_iff (x y : Int) (l : List Int) (s u d t : Int) : terrOk x y l s u d t = true ↔ Terr x y l s u d t := by
  simp only [terrOk, Bool.and_eq_true, inr_iff, decide_eq_true_eq, List.all_eq_true, List.mem_cons, List.not_mem_nil, or_false]
  constructor
  · rintro ⟨h1, h2, h3, h4, h5, h6⟩
    exact ⟨h1, h2, h3, h4, h5, h6 u (.inl rfl), h6 d (.inr (.inl rfl)), h6 t (.inr (.inr rfl))⟩
  · rintro ⟨h1, h2, h3, h4, h5, h6, h7, h8⟩
    refine ⟨h1, h2, h3, h4, h5, ?_⟩
    rintro z (rfl | rfl | rfl)
    · exact h6
    · exact h7
    · exact h8
theorem xy_bounds {x y : Int} (hx : 1 ≤ x ∧ x ≤ 8) (hy : 1 ≤ y ∧ y ≤ 6) : 1 ≤ x * y ∧ x * y ≤ 48 := by
  have h1 : 1 * 1 ≤ x * y := Int.mul_le_mul hx.1 hy.1 (by omega) (by omega)
  have h2 : x * y ≤ 8 * 6 := Int.mul_le_mul hx.2 hy.2 (by omega) (by omega)
  omega
theorem roGood_ev (x y : Int) (l : List Int) (s u d t : Int) (hl : l.length ≤ 1048576) : ∃ K, ∀ k, K ≤ k → spec_roGood.f k x y l s u d t = some (terrOk x y l s u d t) := by
  obtain ⟨K1, h1⟩ := l1All_ev 0 200 l hl
  refine ⟨K1 + 10, fun k hk => ?_⟩
  have h2 := l1All_eq 0 100 [u, d, t] (by simp) k (by simp; omega)
  unfold spec_roGood.f terrOk
  simp only [l1In_eq, Option.bind_some, h1 k (by omega), h2]
  by_cases hx : inr 1 8 x = true
  · by_cases hy : inr 1 6 y = true
    · have hb := xy_bounds ((inr_iff _ _ _).1 hx) ((inr_iff _ _ _).1 hy)
      rw [if_pos hx, if_pos hy, hx, hy, w64 (x := x * y) (by omega) (by omega)]
      by_cases h3 : (l.length : Int) = x * y
      · rw [if_pos h3, decide_eq_true h3]
        cases l.all (inr 0 200) <;> cases inr 0 200 s <;> simp
      · rw [if_neg h3, decide_eq_false h3]; rfl
    · rw [if_pos hx, if_neg hy, hx, Bool.eq_false_iff.mpr hy]; rfl
  · rw [if_neg hx, Bool.eq_false_iff.mpr hx]; rfl
theorem isTerrain_l1 (l : List Int) (hl : l.length ≤ 1048576) : ∃ K, ∀ k, K ≤ k → impl_IsTerrain.l1 k l (l.length : Int) 0 = some (l.all (inr 0 100)) := by
  have h := ev_loop (F := fun k i => impl_IsTerrain.l1 k l (l.length : Int) (i : Int)) (n := l.length) (res := fun i => (l.drop i).all (inr 0 100))
    (ev_suc 0 fun k _ => by
      simp only [impl_IsTerrain.l1]
      rw [if_neg (by omega), List.drop_of_length_le (Nat.le_refl _)]
      rfl)
    (fun j hj K hK => ev_suc K fun k hk => by
      simp only [impl_IsTerrain.l1]
      rw [if_pos (by omega), if_pos (by omega), if_pos (by omega), rd_nat l j hj, List.drop_eq_getElem_cons hj, List.all_cons]
      by_cases h1 : l[j] < 0
      · rw [if_pos h1, (inr_false _ _ _).2 (by omega)]; rfl
      · rw [if_neg h1]
        by_cases h2 : l[j] > 100
        · rw [if_pos h2, (inr_false _ _ _).2 (by omega)]; rfl
        · rw [if_neg h2, (inr_iff _ _ _).2 (by omega), w64s (by omega), hK k hk]; rfl) 0 (Nat.zero_le _)
  exact h
theorem implIsTerrain_ev (x y : Int) (l : List Int) (s u d t : Int) (hl : l.length ≤ 1048576) : ∃ K, ∀ k, K ≤ k → impl_IsTerrain.f k x y l s u d t = some (terrOk x y l s u d t) := by
  obtain ⟨K1, h1⟩ := isTerrain_l1 [u, d, t] (by simp)
  have h := ev_loop (F := fun k i => impl_IsTerrain.l0 k l (l.length : Int) (i : Int) x y l s u d t) (n := l.length) (res := fun i => (l.drop i).all (inr 0 200) && [u, d, t].all (inr 0 100))
    (ev_suc K1 fun k hk => by
      simp only [impl_IsTerrain.l0]
      rw [if_neg (by omega), List.drop_of_length_le (Nat.le_refl _)]
      simp only [Option.bind_some]
      rw [h1 k hk]
      rfl)
    (fun j hj K hK => ev_suc K fun k hk => by
      simp only [impl_IsTerrain.l0]
      rw [if_pos (by omega), if_pos (by omega), if_pos (by omega), rd_nat l j hj, List.drop_eq_getElem_cons hj, List.all_cons]
      by_cases h1 : l[j] < 0
      · rw [if_pos h1, (inr_false _ _ _).2 (by omega)]; rfl
      · rw [if_neg h1]
        by_cases h2 : l[j] > 200
        · rw [if_pos h2, (inr_false _ _ _).2 (by omega)]; rfl
        · rw [if_neg h2, (inr_iff _ _ _).2 (by omega), w64s (by omega), hK k hk]; rfl) 0 (Nat.zero_le _)
  obtain ⟨K, h⟩ := h
  refine ev_suc K fun k hk => ?_
  have h := h k hk
  have hj : ∀ b, impl_IsTerrain.j0 (k + 1) b x y l s u d t = some (!b && (l.all (inr 0 200) && [u, d, t].all (inr 0 100))) := by
    intro b
    simp only [impl_IsTerrain.j0]
    cases b
    · rw [if_neg (by simp)]
      simpa using h
    · rw [if_pos rfl]; rfl
  unfold impl_IsTerrain.f terrOk
  simp only [hj]
  by_cases h1 : x < 1
  · rw [if_pos h1, (inr_false 1 8 x).2 (by omega)]; rfl
  · rw [if_neg h1]
    by_cases h2 : x > 8
    · rw [if_pos h2, (inr_false 1 8 x).2 (by omega)]; rfl
    · rw [if_neg h2, (inr_iff 1 8 x).2 (by omega)]
      by_cases h3 : y < 1
      · rw [if_pos h3, (inr_false 1 6 y).2 (by omega)]; rfl
      · rw [if_neg h3]
        by_cases h4 : y > 6
        · rw [if_pos h4, (inr_false 1 6 y).2 (by omega)]; rfl
        · have hb := xy_bounds (x := x) (y := y) (by omega) (by omega)
          rw [if_neg h4, (inr_iff 1 6 y).2 (by omega), w64 (x := x * y) (by omega) (by omega)]
          by_cases h5 : (l.length : Int) = x * y
          · rw [if_pos h5, decide_eq_true h5]
            by_cases h6 : s < 0
            · rw [if_pos h6, (inr_false 0 200 s).2 (by omega)]; simp
            · rw [if_neg h6]
              by_cases h7 : s > 200
              · rw [decide_eq_true h7, (inr_false 0 200 s).2 (by omega)]; simp
              · rw [decide_eq_false h7, (inr_iff 0 200 s).2 (by omega)]; simp
          · rw [if_neg h5, decide_eq_false h5]; rfl
/-! Cells and sides: 0 to 3 for north, east, south and west. -/
theorem cell_split {X : Int} (hX : 1 ≤ X) (x y c : Int) (hx : 0 ≤ x ∧ x < X) : y * X + x = c ↔ c / X = y ∧ c % X = x := by
  rw [Int.ediv_emod_unique (by omega), Int.mul_comm X y]
  constructor
  · intro h; exact ⟨by omega, hx⟩
  · rintro ⟨h, _⟩; omega
/-- The cell at a side, or -1. -/
def nbXY (X Y x y : Int) : Int := if 0 ≤ x ∧ x < X ∧ 0 ≤ y ∧ y < Y then y * X + x else -1
def nbOf (X Y c d : Int) : Int := if d = 0 then nbXY X Y (c % X) (c / X + 1) else if d = 1 then nbXY X Y (c % X + 1) (c / X) else if d = 2 then nbXY X Y (c % X) (c / X - 1) else nbXY X Y (c % X - 1) (c / X)
theorem cell_coords {X Y c : Int} (hX : 1 ≤ X ∧ X ≤ 8) (hY : 1 ≤ Y ∧ Y ≤ 6) (h0 : 0 ≤ c) (h1 : c < X * Y) : 0 ≤ c % X ∧ c % X < X ∧ 0 ≤ c / X ∧ c / X < Y ∧ Int.tmod c X = c % X ∧ Int.tdiv c X = c / X := by
  refine ⟨Int.emod_nonneg _ (by omega), Int.emod_lt_of_pos _ (by omega), Int.ediv_nonneg h0 (by omega), ?_, Int.tmod_eq_emod_of_nonneg h0, Int.tdiv_eq_ediv_of_nonneg h0⟩
  exact Int.ediv_lt_of_lt_mul (by omega) (by rw [Int.mul_comm]; exact h1)
theorem roNeighbour_ev {X Y : Int} (hX : 1 ≤ X ∧ X ≤ 8) (hY : 1 ≤ Y ∧ Y ≤ 6) (l : List Int) (s u d t : Int) {c : Int} (h0 : 0 ≤ c) (h1 : c < X * Y) (e : Int) (k : Nat) (hk : 1 ≤ k) : spec_roNeighbour.f k X Y l s u d t c e = some (nbOf X Y c e) := by
  obtain ⟨k, rfl⟩ : ∃ m, k = m + 1 := ⟨k - 1, by omega⟩
  obtain ⟨c1, c2, c3, c4, c5, c6⟩ := cell_coords hX hY h0 h1
  have hj : ∀ x y : Int, -1 ≤ x → x ≤ X → -1 ≤ y → y ≤ Y → spec_roNeighbour.j0 (k + 1) x y X Y l s u d t = some (nbXY X Y x y) := by
    intro x y hx1 hx2 hy1 hy2
    simp only [spec_roNeighbour.j0, l1In_eq, Option.bind_some]
    rw [w64 (x := X - 1) (by omega) (by omega), w64 (x := Y - 1) (by omega) (by omega)]
    unfold nbXY
    by_cases hx : 0 ≤ x ∧ x < X
    · rw [if_pos ((inr_iff _ _ _).2 (by omega))]
      by_cases hy : 0 ≤ y ∧ y < Y
      · have h3 : 0 ≤ y * X := Int.mul_nonneg hy.1 (by omega)
        have h4 : y * X ≤ 6 * 8 := Int.mul_le_mul (by omega) hX.2 (by omega) (by omega)
        rw [if_pos ((inr_iff _ _ _).2 (by omega)), if_pos ⟨hx.1, hx.2, hy⟩, w64 (x := y * X) (by omega) (by omega), w64 (by omega) (by omega)]
      · rw [if_neg (fun h => hy (by have := (inr_iff _ _ _).1 h; omega)), if_neg (fun h => hy ⟨h.2.2.1, h.2.2.2⟩)]
    · rw [if_neg (fun h => hx (by have := (inr_iff _ _ _).1 h; omega)), if_neg (fun h => hx ⟨h.1, h.2.1⟩)]
  unfold spec_roNeighbour.f nbOf
  rw [if_neg (by omega), c5, c6, w64 (x := c / X) (by omega) (by omega), w64 (x := c / X + 1) (by omega) (by omega), w64 (x := c % X + 1) (by omega) (by omega), w64 (x := c / X - 1) (by omega) (by omega), w64 (x := c % X - 1) (by omega) (by omega)]
  rw [hj _ _ (by omega) (by omega) (by omega) (by omega), hj _ _ (by omega) (by omega) (by omega) (by omega), hj _ _ (by omega) (by omega) (by omega) (by omega), hj _ _ (by omega) (by omega) (by omega) (by omega)]
  split
  · rfl
  · split
    · rfl
    · split <;> rfl
def ab (a : Int) : Int := mx a (-a)
theorem ab_spec (a : Int) : (0 ≤ a → ab a = a) ∧ (a ≤ 0 → ab a = -a) := by unfold ab mx; split <;> omega
theorem l1Abs_eq {a : Int} (h1 : -1000000 ≤ a) (h2 : a ≤ 1000000) : spec_l1Abs.f a = some (ab a) := by
  unfold spec_l1Abs.f ab
  rw [l1Most_eq, w64 (by omega) (by omega)]; rfl
theorem implAbs_eq {a : Int} (h1 : -1000000 ≤ a) (h2 : a ≤ 1000000) : impl_abs.f a = some (ab a) := by
  unfold impl_abs.f ab
  rw [w64 (by omega) (by omega)]
/-- The cost of a step between neighbours, or -1. -/
def costOf (l : List Int) (s u d a b : Int) : Int := if s < ab (rd l b - rd l a) then -1 else if 0 < rd l b - rd l a then 1 + (rd l b - rd l a) * u else 1 - (rd l b - rd l a) * d
theorem terr_at {x y : Int} {l : List Int} {s u d t : Int} (T : Terr x y l s u d t) {a : Int} (h0 : 0 ≤ a) (h1 : a < x * y) : 0 ≤ rd l a ∧ rd l a ≤ 200 ∧ a < (l.length : Int) := by
  obtain ⟨i, rfl⟩ := Int.eq_ofNat_of_zero_le h0
  have hl := T.len
  have hi : i < l.length := by omega
  rw [rd_nat l i hi]
  have := T.all _ (List.getElem_mem hi)
  omega
theorem mul_bounds {h u : Int} (hh : 0 ≤ h ∧ h ≤ 200) (hu : 0 ≤ u ∧ u ≤ 100) : 0 ≤ h * u ∧ h * u ≤ 20000 :=
  ⟨Int.mul_nonneg hh.1 hu.1, by have := Int.mul_le_mul hh.2 hu.2 hu.1 (by omega); omega⟩
theorem cost_facts {x y : Int} {l : List Int} {s u d t : Int} (T : Terr x y l s u d t) {a b : Int} (ha : 0 ≤ a ∧ a < x * y) (hb : 0 ≤ b ∧ b < x * y) : (costOf l s u d a b = -1 ∨ 1 ≤ costOf l s u d a b) ∧ costOf l s u d a b ≤ 20001 ∧ spec_roCost.f x y l s u d t a b = some (costOf l s u d a b) := by
  have h1 := terr_at T ha.1 ha.2
  have h2 := terr_at T hb.1 hb.2
  have hs := T.s
  have hab := ab_spec (rd l b - rd l a)
  unfold spec_roCost.f
  rw [if_pos hb.1, if_pos h2.2.2, if_pos ha.1, if_pos h1.2.2, w64 (x := rd l b - rd l a) (by omega) (by omega), l1Abs_eq (by omega) (by omega)]
  simp only [Option.bind_some]
  unfold costOf
  by_cases g1 : s < ab (rd l b - rd l a)
  · rw [if_pos g1, if_pos g1]
    exact ⟨.inl rfl, by omega, rfl⟩
  · rw [if_neg g1, if_neg g1]
    by_cases g2 : 0 < rd l b - rd l a
    · have m := mul_bounds (h := rd l b - rd l a) (u := u) (by omega) T.u
      rw [if_pos g2, if_pos g2, w64 (x := (rd l b - rd l a) * u) (by omega) (by omega), w64 (by omega) (by omega)]
      exact ⟨.inr (by omega), by omega, rfl⟩
    · have m := mul_bounds (h := -(rd l b - rd l a)) (u := d) (by omega) T.d
      rw [Int.neg_mul] at m
      rw [if_neg g2, if_neg g2, w64 (x := (rd l b - rd l a) * d) (by omega) (by omega), w64 (by omega) (by omega)]
      exact ⟨.inr (by omega), by omega, rfl⟩
/-- Are two cells neighbours? -/
def nextTo (X a b : Int) : Prop := ab (b % X - a % X) + ab (b / X - a / X) = 1
instance (X a b : Int) : Decidable (nextTo X a b) := by unfold nextTo; exact inferInstance
theorem implStepCost_eq {x y : Int} {l : List Int} {s u d t : Int} (T : Terr x y l s u d t) {a b : Int} (ha : 0 ≤ a ∧ a < x * y) (hb : 0 ≤ b ∧ b < x * y) : impl_stepCost.f x y l s u d t a b = some (if nextTo x a b then costOf l s u d a b else -1) := by
  have h1 := terr_at T ha.1 ha.2
  have h2 := terr_at T hb.1 hb.2
  have hx := T.x
  have hy := T.y
  obtain ⟨a1, a2, a3, a4, a5, a6⟩ := cell_coords T.x T.y ha.1 ha.2
  obtain ⟨b1, b2, b3, b4, b5, b6⟩ := cell_coords T.x T.y hb.1 hb.2
  have p1 := ab_spec (b % x - a % x)
  have p2 := ab_spec (b / x - a / x)
  have p3 := ab_spec (rd l b - rd l a)
  unfold impl_stepCost.f
  rw [if_pos hb.1, if_pos h2.2.2, if_pos ha.1, if_pos h1.2.2, if_neg (by omega), a5, a6, b5, b6, w64 (x := b % x - a % x) (by omega) (by omega), w64 (x := b / x) (by omega) (by omega), w64 (x := a / x) (by omega) (by omega), w64 (x := b / x - a / x) (by omega) (by omega), implAbs_eq (by omega) (by omega), implAbs_eq (by omega) (by omega)]
  simp only [Option.bind_some]
  rw [w64 (x := ab (b % x - a % x) + ab (b / x - a / x)) (by omega) (by omega)]
  by_cases g : nextTo x a b
  · have g' : ab (b % x - a % x) + ab (b / x - a / x) = 1 := g
    rw [if_pos g, if_pos g', w64 (x := rd l b - rd l a) (by omega) (by omega), implAbs_eq (by omega) (by omega)]
    simp only [Option.bind_some]
    unfold costOf
    by_cases g1 : s < ab (rd l b - rd l a)
    · rw [if_pos g1, if_pos g1]
    · rw [if_neg g1, if_neg g1, w64 (x := -(rd l b - rd l a)) (by omega) (by omega)]
      by_cases g2 : 0 < rd l b - rd l a
      · have m := mul_bounds (h := rd l b - rd l a) (u := u) (by omega) T.u
        rw [if_pos g2, mx_of_lt g2, mx_of_ge (by omega), Int.zero_mul, w64 (x := (rd l b - rd l a) * u) (by omega) (by omega), w64 (x := 1 + (rd l b - rd l a) * u) (by omega) (by omega), w64 (x := 0) (by omega) (by omega), Int.add_zero, w64 (by omega) (by omega)]
      · have m := mul_bounds (h := -(rd l b - rd l a)) (u := d) (by omega) T.d
        have e : mx 0 (-(rd l b - rd l a)) = -(rd l b - rd l a) := by
          unfold mx
          split <;> omega
        have e2 := Int.neg_mul (rd l b - rd l a) d
        rw [if_neg g2, mx_of_ge (by omega), e, Int.zero_mul, w64 (x := 0) (by omega) (by omega), Int.add_zero, w64 (x := 1) (by omega) (by omega), w64 (x := -(rd l b - rd l a) * d) (by omega) (by omega), w64 (by omega) (by omega), e2]
        congr 1
  · have g' : ¬ ab (b % x - a % x) + ab (b / x - a / x) = 1 := g
    rw [if_neg g, if_neg g']
theorem areCells_ev (x y : Int) (l : List Int) (s u d t : Int) (hl : l.length ≤ 1048576) (c : List Int) (hc : c.length ≤ 1048576) : ∃ K, ∀ k, K ≤ k → impl_areCells.f k x y l s u d t c = some (terrOk x y l s u d t && c.all (inr 0 ((l.length : Int) - 1))) := by
  obtain ⟨K1, h1⟩ := implIsTerrain_ev x y l s u d t hl
  have h := ev_loop (F := fun k i => impl_areCells.l0 k c (c.length : Int) (i : Int) x y l s u d t) (n := c.length) (res := fun i => (c.drop i).all (inr 0 ((l.length : Int) - 1)))
    (ev_suc 0 fun k _ => by
      simp only [impl_areCells.l0]
      rw [if_neg (by omega), List.drop_of_length_le (Nat.le_refl _)]
      rfl)
    (fun j hj K hK => ev_suc K fun k hk => by
      simp only [impl_areCells.l0]
      rw [if_pos (by omega), if_pos (by omega), if_pos (by omega), rd_nat c j hj, List.drop_eq_getElem_cons hj, List.all_cons]
      by_cases h1 : c[j] < 0
      · rw [if_pos h1, (inr_false _ _ _).2 (by omega)]; rfl
      · rw [if_neg h1]
        by_cases h2 : c[j] ≥ (l.length : Int)
        · rw [if_pos h2, (inr_false _ _ _).2 (by omega)]; rfl
        · rw [if_neg h2, (inr_iff _ _ _).2 (by omega), w64s (by omega), hK k hk]; rfl) 0 (Nat.zero_le _)
  obtain ⟨K2, h2⟩ := h
  refine ⟨K1 + K2, fun k hk => ?_⟩
  unfold impl_areCells.f
  rw [h1 k (by omega)]
  simp only [Option.bind_some]
  by_cases g : terrOk x y l s u d t = true
  · rw [if_pos g, g, Bool.true_and]
    exact h2 k (by omega)
  · rw [if_neg g, Bool.eq_false_iff.mpr g, Bool.false_and]
theorem roCell_ev (x y : Int) (l : List Int) (s u d t : Int) (hl : l.length ≤ 1048576) (c : Int) : ∃ K, ∀ k, K ≤ k → spec_roCell.f k x y l s u d t c = some (terrOk x y l s u d t && inr 0 ((l.length : Int) - 1) c) := by
  obtain ⟨K1, h1⟩ := roGood_ev x y l s u d t hl
  refine ⟨K1, fun k hk => ?_⟩
  unfold spec_roCell.f
  rw [h1 k (by omega)]
  simp only [Option.bind_some]
  by_cases g : terrOk x y l s u d t = true
  · have T := (terrOk_iff _ _ _ _ _ _ _).1 g
    have hb := xy_bounds T.x T.y
    rw [if_pos g, g, Bool.true_and, l1In_eq, w64 (x := x * y) (by omega) (by omega), w64 (x := x * y - 1) (by omega) (by omega), T.len]
    rfl
  · rw [if_neg g, Bool.eq_false_iff.mpr g, Bool.false_and]
/-- The reference's number of the program's side. -/
def sg (e : Int) : Int := if e = 0 then 2 else if e = 1 then 3 else if e = 2 then 1 else 0
theorem sideOf_eq {X Y : Int} (hX : 1 ≤ X ∧ X ≤ 8) (hY : 1 ≤ Y ∧ Y ≤ 6) (l : List Int) (s u d t : Int) {c : Int} (h0 : 0 ≤ c) (h1 : c < X * Y) (e : Int) : impl_sideOf.f X Y l s u d t c e = some (nbOf X Y c (sg e)) := by
  obtain ⟨c1, c2, c3, c4, c5, c6⟩ := cell_coords hX hY h0 h1
  have hj : ∀ x y : Int, -1 ≤ x → x ≤ X → -1 ≤ y → y ≤ Y → (if x < 0 then some (-1) else if x ≥ X then some (-1) else if y < 0 then some (-1) else if y ≥ Y then some (-1) else some (wrap64 (wrap64 (y * X) + x))) = some (nbXY X Y x y) := by
    intro x y hx1 hx2 hy1 hy2
    unfold nbXY
    by_cases hx : 0 ≤ x ∧ x < X
    · rw [if_neg (by omega), if_neg (by omega)]
      by_cases hy : 0 ≤ y ∧ y < Y
      · have h3 : 0 ≤ y * X := Int.mul_nonneg hy.1 (by omega)
        have h4 : y * X ≤ 6 * 8 := Int.mul_le_mul (by omega) hX.2 (by omega) (by omega)
        rw [if_neg (by omega), if_neg (by omega), if_pos ⟨hx.1, hx.2, hy⟩, w64 (x := y * X) (by omega) (by omega), w64 (by omega) (by omega)]
      · have hn : ¬ (0 ≤ x ∧ x < X ∧ 0 ≤ y ∧ y < Y) := by omega
        rw [if_neg hn]
        by_cases g : y < 0
        · rw [if_pos g]
        · rw [if_neg g, if_pos (by omega)]
    · have hn : ¬ (0 ≤ x ∧ x < X ∧ 0 ≤ y ∧ y < Y) := by omega
      rw [if_neg hn]
      by_cases g : x < 0
      · rw [if_pos g]
      · rw [if_neg g, if_pos (by omega)]
  unfold impl_sideOf.f nbOf sg
  rw [if_neg (by omega), c5, c6, w64 (x := c / X) (by omega) (by omega), w64 (x := c / X + 1) (by omega) (by omega), w64 (x := c % X + 1) (by omega) (by omega), w64 (x := c / X - 1) (by omega) (by omega), w64 (x := c % X - 1) (by omega) (by omega)]
  rw [hj _ _ (by omega) (by omega) (by omega) (by omega), hj _ _ (by omega) (by omega) (by omega) (by omega), hj _ _ (by omega) (by omega) (by omega) (by omega), hj _ _ (by omega) (by omega) (by omega) (by omega)]
  by_cases e0 : e = 0
  · simp [e0]
  · by_cases e1 : e = 1
    · simp [e1]
    · by_cases e2 : e = 2
      · simp [e2]
      · simp [e0, e1, e2]
theorem nb_facts {X Y : Int} (hX : 1 ≤ X ∧ X ≤ 8) (hY : 1 ≤ Y ∧ Y ≤ 6) {c : Int} (h0 : 0 ≤ c) (h1 : c < X * Y) (d : Int) (hn : 0 ≤ nbOf X Y c d) : nbOf X Y c d < X * Y ∧ nextTo X c (nbOf X Y c d) := by
  obtain ⟨c1, c2, c3, c4, _, _⟩ := cell_coords hX hY h0 h1
  have key : ∀ x y : Int, 0 ≤ nbXY X Y x y → (0 ≤ x ∧ x < X ∧ 0 ≤ y ∧ y < Y) ∧ nbXY X Y x y < X * Y ∧ nbXY X Y x y % X = x ∧ nbXY X Y x y / X = y := by
    intro x y h
    unfold nbXY at h ⊢
    by_cases g : 0 ≤ x ∧ x < X ∧ 0 ≤ y ∧ y < Y
    · rw [if_pos g]
      have hs := (cell_split hX.1 x y (y * X + x) ⟨g.1, g.2.1⟩).1 rfl
      refine ⟨g, ?_, hs.2, hs.1⟩
      have h5 : (y + 1) * X ≤ Y * X := Int.mul_le_mul_of_nonneg_right (by omega) (by omega)
      rw [Int.add_mul, Int.one_mul, Int.mul_comm Y X] at h5
      omega
    · rw [if_neg g] at h; omega
  unfold nextTo
  unfold nbOf at hn ⊢
  split at hn
  · rename_i g; rw [if_pos g] 
    obtain ⟨k1, k2, k3, k4⟩ := key _ _ hn
    refine ⟨k2, ?_⟩
    rw [k3, k4]
    unfold ab mx
    (repeat' split) <;> omega
  · rename_i g; rw [if_neg g] 
    split at hn
    · rename_i g; rw [if_pos g] 
      obtain ⟨k1, k2, k3, k4⟩ := key _ _ hn
      refine ⟨k2, ?_⟩
      rw [k3, k4]
      unfold ab mx
      (repeat' split) <;> omega
    · rename_i g; rw [if_neg g] 
      split at hn
      · rename_i g; rw [if_pos g] 
        obtain ⟨k1, k2, k3, k4⟩ := key _ _ hn
        refine ⟨k2, ?_⟩
        rw [k3, k4]
        unfold ab mx
        (repeat' split) <;> omega
      · rename_i g; rw [if_neg g] 
        obtain ⟨k1, k2, k3, k4⟩ := key _ _ hn
        refine ⟨k2, ?_⟩
        rw [k3, k4]
        unfold ab mx
        (repeat' split) <;> omega
/-- A step that can be driven. -/
def Drive (X Y : Int) (l : List Int) (s : Int) (c n : Int) : Prop := 0 ≤ n ∧ ∃ d : Int, 0 ≤ d ∧ d < 4 ∧ nbOf X Y c d = n ∧ ab (rd l n - rd l c) ≤ s
inductive Reach (A : Int → Int → Prop) (a : Int) : Int → Prop
  | refl : Reach A a a
  | step {c n : Int} : Reach A a c → A c n → Reach A a n
theorem reach_closed {A : Int → Int → Prop} {a : Int} {S : Int → Prop} (ha : S a) (hs : ∀ c n, S c → A c n → S n) {c : Int} (h : Reach A a c) : S c := by
  induction h with
  | refl => exact ha
  | step _ h2 ih => exact hs _ _ ih h2
theorem rdB_set {m : List Bool} {n c : Int} (hn : 0 ≤ n) (hl : n < (m.length : Int)) (hc : 0 ≤ c) : rdOf false (m.set n.toNat true) c = if c = n then true else rdOf false m c := by
  simp only [rdOf, List.getD_eq_getElem?_getD, List.getElem?_set]
  by_cases h : c = n
  · rw [if_pos (by rw [h]), if_pos h, if_pos (by omega)]; rfl
  · rw [if_neg (by omega), if_neg h]
theorem count_set {m : List Bool} {n : Nat} (hn : n < m.length) (h : m[n] = false) : (m.set n true).count false + 1 = m.count false := by
  rw [List.count_set hn, h]
  have : 0 < m.count false := List.count_pos_iff.2 (by rw [← h]; exact List.getElem_mem hn)
  simp
  omega
/-- One side of a cell is looked at. -/
def xp (X Y : Int) (l : List Int) (s : Int) (c : Int) (p : List Bool × List Int) (e : Int) : List Bool × List Int :=
  if 0 ≤ nbOf X Y c (sg e) ∧ rdOf false p.1 (nbOf X Y c (sg e)) = false ∧ ab (rd l (nbOf X Y c (sg e)) - rd l c) ≤ s then (p.1.set (nbOf X Y c (sg e)).toNat true, p.2 ++ [nbOf X Y c (sg e)]) else p
/-- What holds while a cell's sides are looked at: of the sides D that was done. -/
structure Wv (X Y : Int) (l : List Int) (s a : Int) (c : Int) (D : List Int) (p : List Bool × List Int) : Prop where
  len : (p.1.length : Int) = X * Y
  st : rdOf false p.1 a = true
  inq : ∀ n ∈ p.2, 0 ≤ n ∧ n < X * Y ∧ rdOf false p.1 n = true
  snd : ∀ n, 0 ≤ n → n < X * Y → rdOf false p.1 n = true → Reach (Drive X Y l s) a n
  clo : ∀ n, 0 ≤ n → n < X * Y → rdOf false p.1 n = true → n ∈ p.2 ∨ n = c ∨ ∀ n', Drive X Y l s n n' → rdOf false p.1 n' = true
  dn : ∀ e ∈ D, 0 ≤ nbOf X Y c (sg e) → ab (rd l (nbOf X Y c (sg e)) - rd l c) ≤ s → rdOf false p.1 (nbOf X Y c (sg e)) = true
theorem xp_W {X Y : Int} {l : List Int} {s u d t a : Int} (T : Terr X Y l s u d t) (ha : 0 ≤ a) {c : Int} (h0 : 0 ≤ c) (h1 : c < X * Y) {D : List Int} {p : List Bool × List Int} (hc : rdOf false p.1 c = true) (W : Wv X Y l s a c D p) (e : Int) (he : 0 ≤ e ∧ e < 4) :
    Wv X Y l s a c (e :: D) (xp X Y l s c p e) ∧ 2 * (xp X Y l s c p e).1.count false + (xp X Y l s c p e).2.length ≤ 2 * p.1.count false + p.2.length ∧ rdOf false (xp X Y l s c p e).1 c = true := by
  unfold xp
  obtain ⟨n, hne⟩ : ∃ n, n = nbOf X Y c (sg e) := ⟨_, rfl⟩
  have hsg : 0 ≤ sg e ∧ sg e < 4 := by unfold sg; split; omega; split; omega; split <;> omega
  have hdr : 0 ≤ n → ab (rd l n - rd l c) ≤ s → Drive X Y l s c n := fun g1 g3 => ⟨g1, sg e, hsg.1, hsg.2, hne.symm, g3⟩
  have hn : 0 ≤ n → n < X * Y := fun g1 => by rw [hne] at g1 ⊢; exact (nb_facts T.x T.y h0 h1 (sg e) g1).1
  rw [← hne]
  by_cases g : 0 ≤ n ∧ rdOf false p.1 n = false ∧ ab (rd l n - rd l c) ≤ s
  · rw [if_pos g]
    obtain ⟨g1, g2, g3⟩ := g
    have hn := hn g1
    have hdr := hdr g1 g3
    have hlt : n < (p.1.length : Int) := by rw [W.len]; exact hn
    have hs : ∀ m, 0 ≤ m → rdOf false (p.1.set n.toNat true) m = if m = n then true else rdOf false p.1 m := fun m hm => rdB_set g1 hlt hm
    have hgrow : ∀ m, 0 ≤ m → rdOf false p.1 m = true → rdOf false (p.1.set n.toNat true) m = true := fun m hm h => by rw [hs m hm]; split; rfl; exact h
    have hnew : rdOf false (p.1.set n.toNat true) n = true := by rw [hs n g1, if_pos rfl]
    refine ⟨⟨by rw [List.length_set]; exact W.len, hgrow a ha W.st, fun m hm => ?_, fun m m0 m1 h => ?_, fun m m0 m1 h => ?_, fun e' he' h2 h3 => ?_⟩, ?_, hgrow c h0 hc⟩
    · rcases List.mem_append.1 hm with hm | hm
      · obtain ⟨q1, q2, q3⟩ := W.inq m hm
        exact ⟨q1, q2, hgrow m q1 q3⟩
      · rw [List.mem_singleton] at hm
        subst hm
        exact ⟨g1, hn, hnew⟩
    · by_cases e1 : m = n
      · rw [e1]; exact .step (W.snd c h0 h1 hc) hdr
      · simp only at h
        rw [hs m m0, if_neg e1] at h
        exact W.snd m m0 m1 h
    · by_cases e1 : m = n
      · exact .inl (List.mem_append.2 (.inr (by rw [e1]; exact List.mem_singleton.2 rfl)))
      · simp only at h
        rw [hs m m0, if_neg e1] at h
        rcases W.clo m m0 m1 h with h | h | h
        · exact .inl (List.mem_append.2 (.inl h))
        · exact .inr (.inl h)
        · exact .inr (.inr fun n' hd => hgrow n' hd.1 (h n' hd))
    · rcases List.mem_cons.1 he' with rfl | he'
      · rw [← hne]; exact hnew
      · exact hgrow _ h2 (W.dn e' he' h2 h3)
    · have hlt2 : n.toNat < p.1.length := by omega
      have hv : p.1[n.toNat] = false := by
        have h5 := g2
        simp only [rdOf, List.getD_eq_getElem?_getD, List.getElem?_eq_getElem hlt2, Option.getD_some] at h5
        exact h5
      have h6 := count_set hlt2 hv
      simp only [List.length_append, List.length_singleton]
      omega
  · rw [if_neg g]
    refine ⟨⟨W.len, W.st, W.inq, W.snd, W.clo, fun e' he' h2 h3 => ?_⟩, Nat.le_refl _, hc⟩
    rcases List.mem_cons.1 he' with rfl | he'
    · rw [← hne] at h2 h3 ⊢
      cases hq : rdOf false p.1 n with
      | true => rfl
      | false => exact absurd ⟨h2, hq, h3⟩ g
    · exact W.dn e' he' h2 h3
/-- What holds between two cells. -/
structure Bv (X Y : Int) (l : List Int) (s a : Int) (p : List Bool × List Int) : Prop where
  len : (p.1.length : Int) = X * Y
  st : rdOf false p.1 a = true
  inq : ∀ n ∈ p.2, 0 ≤ n ∧ n < X * Y ∧ rdOf false p.1 n = true
  snd : ∀ n, 0 ≤ n → n < X * Y → rdOf false p.1 n = true → Reach (Drive X Y l s) a n
  clo : ∀ n, 0 ≤ n → n < X * Y → rdOf false p.1 n = true → n ∈ p.2 ∨ ∀ n', Drive X Y l s n n' → rdOf false p.1 n' = true
theorem Bv.pop {X Y : Int} {l : List Int} {s a c : Int} {m : List Bool} {q : List Int} (B : Bv X Y l s a (m, c :: q)) : Wv X Y l s a c [] (m, q) :=
  ⟨B.len, B.st, fun n hn => B.inq n (List.mem_cons_of_mem _ hn), B.snd, fun n n0 n1 h => by
    rcases B.clo n n0 n1 h with h | h
    · rcases List.mem_cons.1 h with h | h
      · exact .inr (.inl h)
      · exact .inl h
    · exact .inr (.inr h), fun e he => by cases he⟩
theorem Wv.all {X Y : Int} {l : List Int} {s a c : Int} {p : List Bool × List Int} (W : Wv X Y l s a c [3, 2, 1, 0] p) : Bv X Y l s a p :=
  ⟨W.len, W.st, W.inq, W.snd, fun n n0 n1 h => by
    rcases W.clo n n0 n1 h with h | h | h
    · exact .inl h
    · refine .inr fun n' hd => ?_
      obtain ⟨g1, d, d0, d4, g2, g3⟩ := hd
      obtain ⟨e, he, hs⟩ : ∃ e ∈ ([3, 2, 1, 0] : List Int), sg e = d := by
        have : d = 0 ∨ d = 1 ∨ d = 2 ∨ d = 3 := by omega
        rcases this with rfl | rfl | rfl | rfl
        · exact ⟨3, by simp, rfl⟩
        · exact ⟨2, by simp, rfl⟩
        · exact ⟨0, by simp, rfl⟩
        · exact ⟨1, by simp, rfl⟩
      have := W.dn e he
      rw [hs, ← h, g2] at this
      exact this g1 g3
    · exact .inr h⟩
/-- One side, in the program's words. -/
theorem side_ev {X Y : Int} {l : List Int} {s u d t : Int} (T : Terr X Y l s u d t) {c : Int} (h0 : 0 ≤ c) (h1 : c < X * Y) {e : Int} (he : 0 ≤ e ∧ e < 4) (p : List Bool × List Int) (hlen : (p.1.length : Int) = X * Y) (hq : p.2.length ≤ 1000000) (r : List Bool)
    (H : ∃ K, ∀ k, K ≤ k → impl_reachedFrom.l1 k (xp X Y l s c p e).1 (xp X Y l s c p e).2 c (e + 1) X Y l s u d t = some r) : ∃ K, ∀ k, K ≤ k → impl_reachedFrom.l1 k p.1 p.2 c e X Y l s u d t = some r := by
  obtain ⟨K, H⟩ := H
  refine ev_suc K fun k hk => ?_
  have hK := H k hk
  simp only [impl_reachedFrom.l1]
  rw [if_pos he.2, sideOf_eq T.x T.y l s u d t h0 h1 e, w64 (x := e + 1) (by omega) (by omega)]
  simp only [Option.bind_some]
  have hnf := nb_facts T.x T.y h0 h1 (sg e)
  unfold xp at hK
  generalize nbOf X Y c (sg e) = n at hK hnf ⊢
  by_cases g1 : 0 ≤ n
  · obtain ⟨n1, n2⟩ := hnf g1
    rw [if_pos (show n ≥ 0 from g1), if_pos g1, if_pos (by rw [hlen]; exact n1)]
    cases g2 : rdOf false p.1 n with
    | true =>
      rw [if_pos rfl]
      rw [if_neg (fun h => by rw [g2] at h; exact absurd h.2.1 (by simp))] at hK
      exact hK
    | false =>
      rw [if_neg (by simp), implStepCost_eq T ⟨h0, h1⟩ ⟨g1, n1⟩, if_pos n2]
      simp only [Option.bind_some]
      have hcf := cost_facts T ⟨h0, h1⟩ ⟨g1, n1⟩
      by_cases g3 : ab (rd l n - rd l c) ≤ s
      · have hpos : costOf l s u d c n ≥ 0 := by
          rcases hcf.1 with h | h
          · exfalso
            unfold costOf at h
            rw [if_neg (by omega)] at h
            have t1 := terr_at T h0 h1
            have t2 := terr_at T g1 n1
            have m1 := T.u
            have m2 := T.d
            split at h
            · have := mul_bounds (h := rd l n - rd l c) (u := u) (by omega) T.u; omega
            · have := mul_bounds (h := -(rd l n - rd l c)) (u := d) (by omega) T.d
              rw [Int.neg_mul] at this
              omega
          · omega
        rw [if_pos hpos, if_pos (by omega)]
        rw [if_pos ⟨g1, g2, g3⟩] at hK
        exact hK
      · have hneg : ¬ (costOf l s u d c n ≥ 0) := by unfold costOf; rw [if_pos (by omega)]; omega
        rw [if_neg hneg]
        rw [if_neg (fun h => g3 h.2.2)] at hK
        exact hK
  · rw [if_neg (show ¬ n ≥ 0 from g1)]
    rw [if_neg (fun h => g1 h.1)] at hK
    exact hK
theorem l1Has_ev (l : List Int) (hl : l.length ≤ 1048576) (a : Int) : ∃ K, ∀ k, K ≤ k → spec_l1Has.f k l a = some (decide (a ∈ l)) := by
  have h := ev_loop (F := fun k i => spec_l1Has.l0 k a l (l.length : Int) (i : Int)) (n := l.length) (res := fun i => decide (a ∈ l.drop i))
    (ev_suc 0 fun k _ => by
      simp only [spec_l1Has.l0]
      rw [if_neg (by omega), List.drop_of_length_le (Nat.le_refl _)]
      rfl)
    (fun i hi K hK => ev_suc K fun k hk => by
      simp only [spec_l1Has.l0]
      rw [if_pos (by omega), if_pos (by omega), if_pos (by omega), rd_nat l i hi, List.drop_eq_getElem_cons hi]
      by_cases h1 : l[i] = a
      · rw [if_pos h1, h1]; simp
      · rw [if_neg h1, w64s (by omega), hK k hk]
        have h2 : ¬ a = l[i] := fun h => h1 h.symm
        exact congrArg some (decide_eq_decide.2 (by rw [List.mem_cons]; exact ⟨.inr, fun h => h.resolve_left h2⟩))) 0 (Nat.zero_le _)
  exact h
theorem drive_in {X Y : Int} {l : List Int} {s u d t : Int} (T : Terr X Y l s u d t) {c n : Int} (h0 : 0 ≤ c) (h1 : c < X * Y) (h : Drive X Y l s c n) : 0 ≤ n ∧ n < X * Y := by
  obtain ⟨g1, e, _, _, g2, _⟩ := h
  rw [← g2] at g1 ⊢
  exact ⟨g1, (nb_facts T.x T.y h0 h1 e g1).1⟩
theorem bfs_end {X Y : Int} {l : List Int} {s u d t : Int} (T : Terr X Y l s u d t) {a : Int} (a0 : 0 ≤ a) (a1 : a < X * Y) (mk : List Bool) (B : Bv X Y l s a (mk, [])) :
    ∃ r, (∃ K, ∀ k, K ≤ k → impl_reachedFrom.l0 k mk [] X Y l s u d t = some r) ∧ (r.length : Int) = X * Y ∧ ∀ n, 0 ≤ n → n < X * Y → (rdOf false r n = true ↔ Reach (Drive X Y l s) a n) := by
  refine ⟨mk, ev_suc 0 fun k _ => by simp only [impl_reachedFrom.l0]; rw [if_neg (by simp)], B.len, fun n n0 n1 => ⟨B.snd n n0 n1, fun h => ?_⟩⟩
  exact (reach_closed (S := fun n => 0 ≤ n ∧ n < X * Y ∧ rdOf false mk n = true) ⟨a0, a1, B.st⟩ (fun c n' hc hd => by
    obtain ⟨c0, c1, c2⟩ := hc
    have hi := drive_in T c0 c1 hd
    refine ⟨hi.1, hi.2, ?_⟩
    rcases B.clo c c0 c1 c2 with g | g
    · cases g
    · exact g n' hd) h).2.2
theorem bfs_ev {X Y : Int} {l : List Int} {s u d t : Int} (T : Terr X Y l s u d t) {a : Int} (a0 : 0 ≤ a) (a1 : a < X * Y) : ∀ (m : Nat) (p : List Bool × List Int), Bv X Y l s a p → 2 * p.1.count false + p.2.length ≤ m → m ≤ 1000 →
    ∃ r, (∃ K, ∀ k, K ≤ k → impl_reachedFrom.l0 k p.1 p.2 X Y l s u d t = some r) ∧ (r.length : Int) = X * Y ∧ ∀ n, 0 ≤ n → n < X * Y → (rdOf false r n = true ↔ Reach (Drive X Y l s) a n) := by
  intro m
  induction m with
  | zero =>
    intro p B hm _
    obtain ⟨mk, q⟩ := p
    have hq : q = [] := List.length_eq_zero_iff.1 (by simp only at hm; omega)
    subst hq
    exact bfs_end T a0 a1 mk B
  | succ m ih =>
    intro p B hm hm2
    obtain ⟨mk, q⟩ := p
    cases q with
    | nil => exact bfs_end T a0 a1 mk B
    | cons c q =>
      obtain ⟨c0, c1, c2⟩ := B.inq c List.mem_cons_self
      have W0 := B.pop
      obtain ⟨W1, z1, k1⟩ := xp_W (p := (mk, q)) T a0 c0 c1 c2 W0 0 (by omega)
      obtain ⟨W2, z2, k2⟩ := xp_W T a0 c0 c1 k1 W1 1 (by omega)
      obtain ⟨W3, z3, k3⟩ := xp_W T a0 c0 c1 k2 W2 2 (by omega)
      obtain ⟨W4, z4, k4⟩ := xp_W T a0 c0 c1 k3 W3 3 (by omega)
      simp only [List.length_cons] at hm
      obtain ⟨r, ⟨K, hK⟩, h2, h3⟩ := ih _ W4.all (by simp only at z1 z2 z3 z4; omega) (by omega)
      have H4 : ∃ K, ∀ k, K ≤ k → impl_reachedFrom.l1 k (xp X Y l s c (xp X Y l s c (xp X Y l s c (xp X Y l s c (mk, q) 0) 1) 2) 3).1 (xp X Y l s c (xp X Y l s c (xp X Y l s c (xp X Y l s c (mk, q) 0) 1) 2) 3).2 c (3 + 1) X Y l s u d t = some r :=
        ev_suc K fun k hk => by
          simp only [impl_reachedFrom.l1]
          rw [if_neg (by omega)]
          exact hK k hk
      have H3 := side_ev T c0 c1 (e := 3) (by omega) _ W3.len (by simp only at z1 z2 z3; omega) r H4
      have H2 := side_ev T c0 c1 (e := 2) (by omega) _ W2.len (by simp only at z1 z2; omega) r H3
      have H1 := side_ev T c0 c1 (e := 1) (by omega) _ W1.len (by simp only at z1; omega) r H2
      obtain ⟨K0, H0⟩ := side_ev T c0 c1 (e := 0) (by omega) (mk, q) W0.len (by simp only; omega) r H1
      refine ⟨r, ev_suc K0 fun k hk => ?_, h2, h3⟩
      simp only [impl_reachedFrom.l0]
      rw [if_pos (by simp only [List.length_cons]; omega), if_pos (by simp only [List.length_cons]; omega), if_pos (by simp only [List.length_cons]; omega)]
      exact H0 k hk
theorem markOf_ev (n : Nat) (hn : n ≤ 1000) (a : Int) (a0 : 0 ≤ a) (a1 : a < (n : Int)) : ∃ K, ∀ k, K ≤ k → impl_markOf.f k (n : Int) [a] = some ((List.replicate n false).set a.toNat true) := by
  refine ⟨3, fun k hk => ?_⟩
  obtain ⟨k, rfl⟩ : ∃ m, k = m + 2 := ⟨k - 2, by omega⟩
  unfold impl_markOf.f
  rw [if_pos (by omega), if_pos (by omega)]
  simp only [impl_markOf.l0, List.length_singleton]
  rw [if_pos (by decide), if_pos (by decide), if_pos (by decide), show rd [a] 0 = a from rfl, if_pos a0, if_pos (by rw [List.length_replicate]; omega), w64 (x := 0 + 1) (by omega) (by omega), if_neg (by decide), Int.toNat_natCast]
theorem reachedFrom_ev {X Y : Int} {l : List Int} {s u d t : Int} (T : Terr X Y l s u d t) {a : Int} (a0 : 0 ≤ a) (a1 : a < X * Y) : ∃ r, (∃ K, ∀ k, K ≤ k → impl_reachedFrom.f k X Y l s u d t a = some r) ∧ (r.length : Int) = X * Y ∧ ∀ n, 0 ≤ n → n < X * Y → (rdOf false r n = true ↔ Reach (Drive X Y l s) a n) := by
  have hb := xy_bounds T.x T.y
  have hlen := T.len
  have hf : ∀ c : Int, rdOf false (List.replicate l.length false) c = false := fun c => by
    simp only [rdOf, List.getD_eq_getElem?_getD, List.getElem?_replicate]
    split <;> rfl
  have hs : ∀ m, 0 ≤ m → rdOf false ((List.replicate l.length false).set a.toNat true) m = if m = a then true else false := fun m hm => by
    rw [rdB_set a0 (by rw [List.length_replicate]; omega) hm, hf]
  have B : Bv X Y l s a ((List.replicate l.length false).set a.toNat true, [a]) := by
    refine ⟨by simp only [List.length_set, List.length_replicate]; omega, by simp only; rw [hs a a0, if_pos rfl], fun n hn => ?_, fun n n0 n1 h => ?_, fun n n0 n1 h => ?_⟩
    · rw [List.mem_singleton] at hn
      subst hn
      exact ⟨a0, a1, by simp only; rw [hs n a0, if_pos rfl]⟩
    · simp only at h
      rw [hs n n0] at h
      by_cases e : n = a
      · rw [e]; exact .refl
      · rw [if_neg e] at h; cases h
    · simp only at h
      rw [hs n n0] at h
      by_cases e : n = a
      · exact .inl (by rw [e]; exact List.mem_singleton.2 rfl)
      · rw [if_neg e] at h; cases h
  have hc : ((List.replicate l.length false).set a.toNat true).count false ≤ l.length := by
    have := List.count_le_length (a := false) (l := (List.replicate l.length false).set a.toNat true)
    rw [List.length_set, List.length_replicate] at this
    exact this
  obtain ⟨r, ⟨K, hK⟩, h2, h3⟩ := bfs_ev T a0 a1 (2 * l.length + 1) _ B (by simp only [List.length_singleton]; omega) (by omega)
  obtain ⟨K2, h4⟩ := markOf_ev l.length (by omega) a a0 (by omega)
  refine ⟨r, ⟨K + K2, fun k hk => ?_⟩, h2, h3⟩
  unfold impl_reachedFrom.f
  rw [h4 k (by omega)]
  exact hK k (by omega)
/-- With the greatest Steep every cell is reached. -/
theorem reach_all {X Y : Int} {l : List Int} {u d t : Int} (T : Terr X Y l 200 u d t) {b : Int} (b0 : 0 ≤ b) (b1 : b < X * Y) {a : Int} : ∀ (m : Nat) (c : Int), 0 ≤ c → c < X * Y → ab (b % X - c % X) + ab (b / X - c / X) ≤ (m : Int) → Reach (Drive X Y l 200) a c → Reach (Drive X Y l 200) a b := by
  obtain ⟨p1, p2, p3, p4, _, _⟩ := cell_coords T.x T.y b0 b1
  intro m
  induction m with
  | zero =>
    intro c c0 c1 hm h
    have q1 := ab_spec (b % X - c % X)
    have q2 := ab_spec (b / X - c / X)
    have e1 : b % X = c % X := by omega
    have e2 : b / X = c / X := by omega
    have e : b = c := by rw [← Int.mul_ediv_add_emod b X, ← Int.mul_ediv_add_emod c X, e1, e2]
    rw [e]
    exact h
  | succ m ih =>
    intro c c0 c1 hm h
    obtain ⟨k1, k2, k3, k4, _, _⟩ := cell_coords T.x T.y c0 c1
    have q1 := ab_spec (b % X - c % X)
    have q2 := ab_spec (b / X - c / X)
    have go : ∀ (e x y : Int), 0 ≤ e → e < 4 → nbOf X Y c e = nbXY X Y x y → (0 ≤ x ∧ x < X ∧ 0 ≤ y ∧ y < Y) → ab (b % X - x) + ab (b / X - y) ≤ (m : Int) → Reach (Drive X Y l 200) a b := by
      intro e x y e0 e4 hn hxy hm2
      have hv : nbXY X Y x y = y * X + x := by unfold nbXY; rw [if_pos hxy]
      have hy : 0 ≤ y * X := Int.mul_nonneg hxy.2.2.1 (by omega)
      have hge : 0 ≤ nbOf X Y c e := by rw [hn, hv]; omega
      have hlt := (nb_facts T.x T.y c0 c1 e hge).1
      have hs := (cell_split T.x.1 x y (nbOf X Y c e) ⟨hxy.1, hxy.2.1⟩).1 (by rw [hn, hv])
      have t1 := terr_at T c0 c1
      have t2 := terr_at T hge hlt
      have hab := ab_spec (rd l (nbOf X Y c e) - rd l c)
      refine ih (nbOf X Y c e) hge hlt (by rw [hs.1, hs.2]; exact hm2) (.step h ⟨hge, e, e0, e4, rfl, by omega⟩)
    by_cases g1 : c % X < b % X
    · have q3 := ab_spec (b % X - (c % X + 1))
      exact go 1 (c % X + 1) (c / X) (by omega) (by omega) rfl (by omega) (by omega)
    · by_cases g2 : b % X < c % X
      · have q3 := ab_spec (b % X - (c % X - 1))
        exact go 3 (c % X - 1) (c / X) (by omega) (by omega) rfl (by omega) (by omega)
      · by_cases g3 : c / X < b / X
        · have q3 := ab_spec (b / X - (c / X + 1))
          exact go 0 (c % X) (c / X + 1) (by omega) (by omega) rfl (by omega) (by omega)
        · by_cases g4 : b / X < c / X
          · have q3 := ab_spec (b / X - (c / X - 1))
            exact go 2 (c % X) (c / X - 1) (by omega) (by omega) rfl (by omega) (by omega)
          · exact ih c c0 c1 (by omega) h
/-- The reference's marks while the sides of the cell at i are looked at: those in D are done. -/
structure Sv (X Y : Int) (l : List Int) (s a : Int) (i : Nat) (c : Int) (D : List Int) (ms : List Int) : Prop where
  nd : ms.Nodup
  st : a ∈ ms
  inr_ : ∀ n ∈ ms, 0 ≤ n ∧ n < X * Y
  snd : ∀ n ∈ ms, Reach (Drive X Y l s) a n
  clo : ∀ j, j < i → ∀ h : j < ms.length, ∀ n', Drive X Y l s ms[j] n' → n' ∈ ms
  dn : ∀ e ∈ D, 0 ≤ nbOf X Y c e → ab (rd l (nbOf X Y c e) - rd l c) ≤ s → nbOf X Y c e ∈ ms
def xs (X Y : Int) (l : List Int) (s : Int) (c : Int) (ms : List Int) (e : Int) : List Int :=
  if 0 ≤ nbOf X Y c e ∧ ¬ nbOf X Y c e ∈ ms ∧ ab (rd l (nbOf X Y c e) - rd l c) ≤ s then ms ++ [nbOf X Y c e] else ms
theorem xs_S {X Y : Int} {l : List Int} {s u d t a : Int} (T : Terr X Y l s u d t) {i : Nat} {c : Int} (h0 : 0 ≤ c) (h1 : c < X * Y) {D ms : List Int} (hi : i < ms.length) (hc : ms[i] = c) (W : Sv X Y l s a i c D ms) (e : Int) (he : 0 ≤ e ∧ e < 4) :
    Sv X Y l s a i c (e :: D) (xs X Y l s c ms e) ∧ ms.length ≤ (xs X Y l s c ms e).length ∧ (xs X Y l s c ms e)[i]? = some c := by
  have hci : ms[i]? = some c := by rw [List.getElem?_eq_getElem hi, hc]
  unfold xs
  obtain ⟨n, hne⟩ : ∃ n, n = nbOf X Y c e := ⟨_, rfl⟩
  rw [← hne]
  by_cases g : 0 ≤ n ∧ ¬ n ∈ ms ∧ ab (rd l n - rd l c) ≤ s
  · rw [if_pos g]
    obtain ⟨g1, g2, g3⟩ := g
    have hdr : Drive X Y l s c n := ⟨g1, e, he.1, he.2, hne.symm, g3⟩
    have hn := (drive_in T h0 h1 hdr).2
    have hcm : c ∈ ms := by rw [← hc]; exact List.getElem_mem hi
    refine ⟨⟨?_, List.mem_append.2 (.inl W.st), fun m hm => ?_, fun m hm => ?_, fun j hj h n' hd => ?_, fun e' he' h2 h3 => ?_⟩, by simp, by rw [List.getElem?_append_left hi]; exact hci⟩
    · rw [List.nodup_append]
      refine ⟨W.nd, by simp, fun x hx y hy => ?_⟩
      rw [List.mem_singleton] at hy
      subst hy
      exact fun e => g2 (e ▸ hx)
    · rcases List.mem_append.1 hm with hm | hm
      · exact W.inr_ m hm
      · rw [List.mem_singleton] at hm; subst hm; exact ⟨g1, hn⟩
    · rcases List.mem_append.1 hm with hm | hm
      · exact W.snd m hm
      · rw [List.mem_singleton] at hm; subst hm; exact .step (W.snd c hcm) hdr
    · have hj2 : j < ms.length := by omega
      rw [List.getElem_append_left hj2] at hd
      exact List.mem_append.2 (.inl (W.clo j hj hj2 n' hd))
    · rcases List.mem_cons.1 he' with rfl | he'
      · rw [← hne]; exact List.mem_append.2 (.inr (List.mem_singleton.2 rfl))
      · exact List.mem_append.2 (.inl (W.dn e' he' h2 h3))
  · rw [if_neg g]
    refine ⟨⟨W.nd, W.st, W.inr_, W.snd, W.clo, fun e' he' h2 h3 => ?_⟩, Nat.le_refl _, hci⟩
    rcases List.mem_cons.1 he' with rfl | he'
    · rw [← hne] at h2 h3 ⊢
      by_cases hq : n ∈ ms
      · exact hq
      · exact absurd ⟨h2, hq, h3⟩ g
    · exact W.dn e' he' h2 h3
theorem sv_len {X Y : Int} {l : List Int} {s u d t a : Int} (T : Terr X Y l s u d t) {i : Nat} {c : Int} {D ms : List Int} (W : Sv X Y l s a i c D ms) : ms.length ≤ l.length := by
  have hlen := T.len
  have hsub : ∀ x ∈ ms, x ∈ (List.range l.length).map (fun (j : Nat) => (j : Int)) := fun x hx => by
    obtain ⟨x0, x1⟩ := W.inr_ x hx
    exact List.mem_map.2 ⟨x.toNat, List.mem_range.2 (by omega), by omega⟩
  have key : ∀ (l p : List Int), l.Nodup → (∀ x ∈ l, x ∈ p) → l.length ≤ p.length := by
    intro l
    induction l with
    | nil => intro p _ _; simp
    | cons x l ih =>
      intro p h1 h2
      rw [List.nodup_cons] at h1
      have hx := h2 x (List.mem_cons_self)
      have h3 := ih (p.erase x) h1.2 (fun y hy => (List.mem_erase_of_ne (fun e : y = x => h1.1 (by rw [← e]; exact hy))).2 (h2 y (List.mem_cons_of_mem _ hy)))
      rw [List.length_erase_of_mem hx] at h3
      have := List.length_pos_of_mem hx
      rw [List.length_cons]
      omega
  have := key _ _ W.nd hsub
  simpa using this
theorem sside_ev {X Y : Int} {l : List Int} {s u d t : Int} (T : Terr X Y l s u d t) {b : Int} {i : Nat} {c : Int} (h0 : 0 ≤ c) (h1 : c < X * Y) {e : Int} (he : 0 ≤ e ∧ e < 4) (ms : List Int) (hi : i < ms.length) (hc : ms[i]? = some c) (hl : ms.length ≤ 1000) (r : Bool)
    (H : ∃ K, ∀ k, K ≤ k → spec_roSpread.l1 k b (xs X Y l s c ms e) (i : Int) (e + 1) X Y l s u d t = some r) : ∃ K, ∀ k, K ≤ k → spec_roSpread.l1 k b ms (i : Int) e X Y l s u d t = some r := by
  obtain ⟨K, H⟩ := H
  obtain ⟨K2, h2⟩ := l1Has_ev ms (by omega) (nbOf X Y c e)
  refine ev_suc (K + K2 + 1) fun k hk => ?_
  have hK := H k (by omega)
  have h2 := h2 k (by omega)
  have hr : rd ms (i : Int) = c := by
    rw [rd_nat ms i hi]
    rw [List.getElem?_eq_getElem hi] at hc
    exact Option.some.inj hc
  simp only [spec_roSpread.l1]
  rw [if_pos he.2, if_pos (by omega), if_pos (by omega), hr, roNeighbour_ev T.x T.y l s u d t h0 h1 e k (by omega), w64 (x := e + 1) (by omega) (by omega)]
  simp only [Option.bind_some]
  have hnf := nb_facts T.x T.y h0 h1 e
  unfold xs at hK
  generalize nbOf X Y c e = n at hK hnf h2 ⊢
  by_cases g1 : 0 ≤ n
  · obtain ⟨n1, n2⟩ := hnf g1
    rw [if_pos (show n ≥ 0 from g1), h2]
    simp only [Option.bind_some]
    by_cases g2 : n ∈ ms
    · rw [if_pos (decide_eq_true g2)]
      rw [if_neg (fun h => h.2.1 g2)] at hK
      exact hK
    · rw [if_neg (by simpa using g2), (cost_facts T ⟨h0, h1⟩ ⟨g1, n1⟩).2.2]
      simp only [Option.bind_some]
      have hcf := cost_facts T ⟨h0, h1⟩ ⟨g1, n1⟩
      by_cases g3 : ab (rd l n - rd l c) ≤ s
      · have hpos : costOf l s u d c n ≥ 0 := by
          rcases hcf.1 with h | h
          · exfalso
            unfold costOf at h
            rw [if_neg (by omega)] at h
            split at h
            · have t1 := terr_at T h0 h1
              have t2 := terr_at T g1 n1
              have := mul_bounds (h := rd l n - rd l c) (u := u) (by omega) T.u; omega
            · have t1 := terr_at T h0 h1
              have t2 := terr_at T g1 n1
              have := mul_bounds (h := -(rd l n - rd l c)) (u := d) (by omega) T.d
              rw [Int.neg_mul] at this
              omega
          · omega
        rw [if_pos hpos, if_pos (by omega)]
        rw [if_pos ⟨g1, g2, g3⟩] at hK
        exact hK
      · have hneg : ¬ (costOf l s u d c n ≥ 0) := by unfold costOf; rw [if_pos (by omega)]; omega
        rw [if_neg hneg]
        rw [if_neg (fun h => g3 h.2.2)] at hK
        exact hK
  · rw [if_neg (show ¬ n ≥ 0 from g1)]
    rw [if_neg (fun h => g1 h.1)] at hK
    exact hK
theorem spread_l0 {X Y : Int} {l : List Int} {s u d t : Int} (T : Terr X Y l s u d t) {a b : Int} (b0 : 0 ≤ b) (b1 : b < X * Y) : ∀ (m : Nat) (ms : List Int) (i : Nat), Sv X Y l s a i a [] ms → i ≤ ms.length → 2 * l.length ≤ m + ms.length + i →
    ∃ r, (∃ K, ∀ k, K ≤ k → spec_roSpread.l0 k b ms (i : Int) X Y l s u d t = some r) ∧ (r = true ↔ Reach (Drive X Y l s) a b) := by
  have hb := xy_bounds T.x T.y
  have hlen := T.len
  have last : ∀ (ms : List Int), Sv X Y l s a ms.length a [] ms → ∃ r, (∃ K, ∀ k, K ≤ k → spec_roSpread.l0 k b ms (ms.length : Int) X Y l s u d t = some r) ∧ (r = true ↔ Reach (Drive X Y l s) a b) := by
    intro ms W
    have hl := sv_len T W
    obtain ⟨K, h⟩ := l1Has_ev ms (by omega) b
    refine ⟨decide (b ∈ ms), ev_suc K fun k hk => ?_, ?_⟩
    · simp only [spec_roSpread.l0]
      rw [if_neg (by omega), h k hk]
      rfl
    · rw [decide_eq_true_iff]
      refine ⟨W.snd b, fun h => ?_⟩
      exact reach_closed (S := fun n => n ∈ ms) W.st (fun c n' hc hd => by
        obtain ⟨j, hj, e⟩ := List.getElem_of_mem hc
        subst e
        exact W.clo j hj hj n' hd) h
  intro m
  induction m with
  | zero =>
    intro ms i W hi hm
    have hl := sv_len T W
    obtain rfl : i = ms.length := by omega
    exact last ms W
  | succ m ih =>
    intro ms i W hi hm
    have hl := sv_len T W
    by_cases he : i = ms.length
    · subst he; exact last ms W
    · have hi2 : i < ms.length := by omega
      obtain ⟨c0, c1⟩ := W.inr_ _ (List.getElem_mem hi2)
      obtain ⟨c, hc⟩ : ∃ c, c = ms[i] := ⟨_, rfl⟩
      rw [← hc] at c0 c1
      have W0 : Sv X Y l s a i c [] ms := ⟨W.nd, W.st, W.inr_, W.snd, W.clo, fun e he => by cases he⟩
      have geti : ∀ {p : List Int}, p[i]? = some c → ∀ h : i < p.length, p[i] = c := fun hp h => by rw [List.getElem?_eq_getElem h] at hp; exact Option.some.inj hp
      obtain ⟨W1, z1, k1⟩ := xs_S T c0 c1 hi2 hc.symm W0 0 (by omega)
      obtain ⟨W2, z2, k2⟩ := xs_S T c0 c1 (by omega) (geti k1 (by omega)) W1 1 (by omega)
      obtain ⟨W3, z3, k3⟩ := xs_S T c0 c1 (by omega) (geti k2 (by omega)) W2 2 (by omega)
      obtain ⟨W4, z4, k4⟩ := xs_S T c0 c1 (by omega) (geti k3 (by omega)) W3 3 (by omega)
      have k0 : ms[i]? = some c := by rw [List.getElem?_eq_getElem hi2, ← hc]
      have l1 := sv_len T W1
      have l2 := sv_len T W2
      have l3 := sv_len T W3
      have l4 := sv_len T W4
      generalize hp1 : xs X Y l s c ms 0 = p1 at *
      generalize hp2 : xs X Y l s c p1 1 = p2 at *
      generalize hp3 : xs X Y l s c p2 2 = p3 at *
      generalize hp4 : xs X Y l s c p3 3 = p4 at *
      have W5 : Sv X Y l s a (i + 1) a [] p4 := ⟨W4.nd, W4.st, W4.inr_, W4.snd, fun j hj h n' hd => by
        by_cases e : j = i
        · subst e
          have hcc := geti k4 h
          rw [hcc] at hd
          obtain ⟨g1, e, e0, e4, g2, g3⟩ := hd
          have hm : e ∈ ([3, 2, 1, 0] : List Int) := by
            have : e = 0 ∨ e = 1 ∨ e = 2 ∨ e = 3 := by omega
            rcases this with rfl | rfl | rfl | rfl <;> simp
          have := W4.dn e hm
          rw [g2] at this
          exact this g1 g3
        · exact W4.clo j (by omega) h n' hd, fun e he => by cases he⟩
      obtain ⟨r, ⟨K, hK⟩, h2⟩ := ih p4 (i + 1) W5 (by omega) (by omega)
      have H4 : ∃ K, ∀ k, K ≤ k → spec_roSpread.l1 k b p4 (i : Int) (3 + 1) X Y l s u d t = some r := ev_suc K fun k hk => by
        simp only [spec_roSpread.l1]
        rw [if_neg (by omega), w64s (by omega)]
        exact hK k hk
      rw [← hp4] at H4
      have H3 := sside_ev T c0 c1 (e := 3) (by omega) p3 (by omega) k3 (by omega) r H4
      rw [← hp3] at H3
      have H2 := sside_ev T c0 c1 (e := 2) (by omega) p2 (by omega) k2 (by omega) r H3
      rw [← hp2] at H2
      have H1 := sside_ev T c0 c1 (e := 1) (by omega) p1 (by omega) k1 (by omega) r H2
      rw [← hp1] at H1
      obtain ⟨K0, H0⟩ := sside_ev T c0 c1 (e := 0) (by omega) ms hi2 k0 (by omega) r H1
      refine ⟨r, ev_suc K0 fun k hk => ?_, h2⟩
      simp only [spec_roSpread.l0]
      rw [if_pos (by omega)]
      exact H0 k hk
theorem spread_ev {X Y : Int} {l : List Int} {s u d t : Int} (T : Terr X Y l s u d t) (s0 : Int) {a b : Int} (a0 : 0 ≤ a) (a1 : a < X * Y) (b0 : 0 ≤ b) (b1 : b < X * Y) : ∃ r, (∃ K, ∀ k, K ≤ k → spec_roSpread.f k X Y l s0 u d t a b s = some r) ∧ (r = true ↔ Reach (Drive X Y l s) a b) := by
  have W : Sv X Y l s a 0 a [] [a] := ⟨by simp, by simp, fun n hn => by rw [List.mem_singleton] at hn; subst hn; exact ⟨a0, a1⟩, fun n hn => by rw [List.mem_singleton] at hn; subst hn; exact .refl, fun j hj => by omega, fun e he => by cases he⟩
  obtain ⟨r, ⟨K, h⟩, h2⟩ := spread_l0 T b0 b1 (2 * l.length) [a] 0 W (by simp) (by omega)
  exact ⟨r, ⟨K, fun k hk => h k hk⟩, h2⟩
theorem leastSteep_loop {X Y : Int} {l : List Int} {u d t : Int} (T : Terr X Y l 200 u d t) {a b : Int} (a0 : 0 ≤ a) (a1 : a < X * Y) (b0 : 0 ≤ b) (b1 : b < X * Y) : ∀ (m : Nat) (s : Int), 0 ≤ s → s + (m : Int) = 200 → ∃ r, (∀ s0, ∃ K, ∀ k, K ≤ k → spec_LeastSteep.l0 k a b s X Y l s0 u d t = some r) ∧ (∀ s0, ∃ K, ∀ k, K ≤ k → impl_LeastSteep.l0 k a b s X Y l s0 u d t = some r) := by
  have stepT : ∀ s : Int, 0 ≤ s → s ≤ 200 → Terr X Y l s u d t := fun s h0 h1 => ⟨T.x, T.y, T.len, T.all, ⟨h0, h1⟩, T.u, T.d, T.t⟩
  have both : ∀ s : Int, 0 ≤ s → s ≤ 200 → ∀ r : Bool, (r = true ↔ Reach (Drive X Y l s) a b) → (∀ s0, ∃ K, ∀ k, K ≤ k → spec_roSpread.f k X Y l s0 u d t a b s = some r) ∧ ∃ q, (∃ K, ∀ k, K ≤ k → impl_reachedFrom.f k X Y l s u d t a = some q) ∧ b < (q.length : Int) ∧ rdOf false q b = r := by
    intro s h0 h1 r hr
    refine ⟨fun s0 => ?_, ?_⟩
    · obtain ⟨r2, h2, h3⟩ := spread_ev (stepT s h0 h1) s0 a0 a1 b0 b1
      have : r2 = r := by
        cases r <;> cases r2 <;> simp_all
      rw [← this]
      exact h2
    · obtain ⟨q, h2, h3, h4⟩ := reachedFrom_ev (stepT s h0 h1) a0 a1
      refine ⟨q, h2, by omega, ?_⟩
      have h5 := h4 b b0 b1
      cases r <;> cases hq : rdOf false q b <;> simp_all
  intro m
  induction m with
  | zero =>
    intro s h0 hs
    obtain rfl : s = 200 := by omega
    have hab := ab_spec (b % X - a % X)
    have hab2 := ab_spec (b / X - a / X)
    have hre : Reach (Drive X Y l 200) a b := reach_all T b0 b1 (ab (b % X - a % X) + ab (b / X - a / X)).toNat a a0 a1 (by omega) .refl
    obtain ⟨h1, q, ⟨K2, h2⟩, h3, h4⟩ := both 200 (by omega) (by omega) true ⟨fun _ => hre, fun _ => rfl⟩
    refine ⟨(200, true), fun s0 => ?_, fun s0 => ?_⟩
    · obtain ⟨K1, h1⟩ := h1 s0
      refine ev_suc K1 fun k hk => ?_
      simp only [spec_LeastSteep.l0]
      rw [h1 k hk]
      simp only [Option.bind_some, if_true]
    · refine ev_suc K2 fun k hk => ?_
      simp only [impl_LeastSteep.l0]
      rw [if_pos (by omega), h2 k hk]
      simp only [Option.bind_some]
      rw [if_pos b0, if_pos h3, if_pos h4]
  | succ m ih =>
    intro s h0 hs
    by_cases hre : Reach (Drive X Y l s) a b
    · obtain ⟨h1, q, ⟨K2, h2⟩, h3, h4⟩ := both s h0 (by omega) true ⟨fun _ => hre, fun _ => rfl⟩
      refine ⟨(s, true), fun s0 => ?_, fun s0 => ?_⟩
      · obtain ⟨K1, h1⟩ := h1 s0
        refine ev_suc K1 fun k hk => ?_
        simp only [spec_LeastSteep.l0]
        rw [h1 k hk]
        simp only [Option.bind_some, if_true]
      · refine ev_suc K2 fun k hk => ?_
        simp only [impl_LeastSteep.l0]
        rw [if_pos (by omega), h2 k hk]
        simp only [Option.bind_some]
        rw [if_pos b0, if_pos h3, if_pos h4]
    · obtain ⟨h1, q, ⟨K2, h2⟩, h3, h4⟩ := both s h0 (by omega) false ⟨fun h => (by cases h), fun h => absurd h hre⟩
      obtain ⟨r, g1, g2⟩ := ih (s + 1) (by omega) (by omega)
      refine ⟨r, fun s0 => ?_, fun s0 => ?_⟩
      · obtain ⟨K1, h1⟩ := h1 s0
        obtain ⟨K3, g1⟩ := g1 s0
        refine ev_suc (K1 + K3) fun k hk => ?_
        simp only [spec_LeastSteep.l0]
        rw [h1 k (by omega), w64 (x := s + 1) (by omega) (by omega)]
        simp only [Option.bind_some, Bool.false_eq_true, if_false]
        exact g1 k (by omega)
      · obtain ⟨K3, g2⟩ := g2 s
        refine ev_suc (K2 + K3) fun k hk => ?_
        simp only [impl_LeastSteep.l0]
        rw [if_pos (by omega), h2 k (by omega), w64 (x := s + 1) (by omega) (by omega)]
        simp only [Option.bind_some]
        rw [if_pos b0, if_pos h3, if_neg (by rw [h4]; simp)]
        exact g2 k (by omega)
theorem leastSteep_both (x y : Int) (l : List Int) (s u d t : Int) (hl : l.length ≤ 1048576) (a b : Int) : ∃ r, (∃ K, ∀ k, K ≤ k → spec_LeastSteep.f k x y l s u d t a b = some r) ∧ (∃ K, ∀ k, K ≤ k → impl_LeastSteep.f k x y l s u d t a b = some r) := by
  obtain ⟨K1, h1⟩ := roCell_ev x y l s u d t hl a
  obtain ⟨K2, h2⟩ := roCell_ev x y l s u d t hl b
  obtain ⟨K3, h3⟩ := areCells_ev x y l s u d t hl [a, b] (by simp)
  by_cases g : (terrOk x y l s u d t && (inr 0 ((l.length : Int) - 1) a && inr 0 ((l.length : Int) - 1) b)) = true
  · simp only [Bool.and_eq_true] at g
    obtain ⟨g1, g2, g3⟩ := g
    have T := (terrOk_iff _ _ _ _ _ _ _).1 g1
    have i1 := (inr_iff _ _ _).1 g2
    have i2 := (inr_iff _ _ _).1 g3
    have hlen := T.len
    obtain ⟨r, e1, e2⟩ := leastSteep_loop (u := u) (d := d) (t := t) ⟨T.x, T.y, T.len, T.all, ⟨by omega, by omega⟩, T.u, T.d, T.t⟩ (a := a) (b := b) i1.1 (by omega) i2.1 (by omega) 200 0 (by omega) (by omega)
    obtain ⟨K4, e1⟩ := e1 s
    obtain ⟨K5, e2⟩ := e2 s
    refine ⟨r, ⟨K1 + K2 + K4 + 1, fun k hk => ?_⟩, ⟨K3 + K5, fun k hk => ?_⟩⟩
    · obtain ⟨k, rfl⟩ : ∃ m, k = m + 1 := ⟨k - 1, by omega⟩
      unfold spec_LeastSteep.f
      rw [h1 _ (by omega), h2 _ (by omega), g1, g2, g3]
      simp only [Bool.and_self, Option.bind_some, if_true, Bool.not_true, spec_LeastSteep.j0, Bool.false_eq_true, if_false]
      exact e1 k (by omega)
    · unfold impl_LeastSteep.f
      rw [h3 k (by omega)]
      simp only [List.all_cons, List.all_nil, g1, g2, g3, Bool.and_self, Bool.and_true, Option.bind_some, if_true]
      exact e2 k (by omega)
  · refine ⟨(0, false), ⟨K1 + K2 + 1, fun k hk => ?_⟩, ⟨K3, fun k hk => ?_⟩⟩
    · obtain ⟨k, rfl⟩ : ∃ m, k = m + 1 := ⟨k - 1, by omega⟩
      unfold spec_LeastSteep.f
      rw [h1 _ (by omega), h2 _ (by omega)]
      cases c1 : terrOk x y l s u d t <;> cases c2 : inr 0 ((l.length : Int) - 1) a <;> cases c3 : inr 0 ((l.length : Int) - 1) b <;> simp [c1, c2, c3, spec_LeastSteep.j0] at g ⊢
    · unfold impl_LeastSteep.f
      rw [h3 k (by omega)]
      cases c1 : terrOk x y l s u d t <;> cases c2 : inr 0 ((l.length : Int) - 1) a <;> cases c3 : inr 0 ((l.length : Int) - 1) b <;> simp [c1, c2, c3] at g ⊢
theorem FnExactLeastSteep (x y : Int) (l : List Int) (s u d t a b : Int) (_ : (Lit.int .i64 x).wf = true) (_ : (Lit.int .i64 y).wf = true) (hl : l.length ≤ maxLen) (_ : ∀ z ∈ l, (Lit.int .i64 z).wf = true) (_ : (Lit.int .i64 s).wf = true) (_ : (Lit.int .i64 u).wf = true) (_ : (Lit.int .i64 d).wf = true) (_ : (Lit.int .i64 t).wf = true) (_ : (Lit.int .i64 a).wf = true) (_ : (Lit.int .i64 b).wf = true) : ∃ k, laws_FnExactLeastSteep.f k x y l s u d t a b = some true := by
  obtain ⟨z, h0, hs⟩ := szTerrain_ev x y l s u d t 1048576 (by omega) hl
  by_cases hneg : z < 0
  · refine ⟨0, ?_⟩
    simp only [laws_FnExactLeastSteep.f, h0, Option.bind_some, hneg, if_true]
  · have hs2 := hs (by omega)
    obtain ⟨K1, h1⟩ := toTerrain_ev x y l s u d t (by omega)
    obtain ⟨r, ⟨K2, h2⟩, K3, h3⟩ := leastSteep_both x y l s u d t (by omega) a b
    obtain ⟨K4, h4⟩ := eqTerrain_ev x y l s u d t (by omega)
    refine ⟨K1 + K2 + K3 + K4 + 2, ?_⟩
    simp (disch := omega) only [laws_FnExactLeastSteep.f, h0, h1, h2, h3, Option.bind_some, hneg, if_true, if_false, bne_self_eq_false, Bool.false_eq_true]
    simp (disch := omega) only [laws_FnExactLeastSteep.j0, h1, h4, Option.bind_some, if_true, if_false, Bool.false_eq_true]

end Go.Proofs.YtbgjhdhdfdfpkaaDoor.Pure
