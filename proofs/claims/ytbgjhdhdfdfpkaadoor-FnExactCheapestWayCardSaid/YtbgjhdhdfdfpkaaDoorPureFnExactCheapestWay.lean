/- THE PURE SIDE OF FnExactCheapestWay: the printed functions of the reference and of the program give the same results. Plain Lean: no memory and no Go. -/
import Derived.Test.YtbgjhdhdfdfpkaaDoorPFnExactCheapestWayx14
import Derived.OpenShut
namespace Go.Proofs.YtbgjhdhdfdfpkaaDoor.Pure
open Go.RowKit Go.Proofs.YtbgjhdhdfdfpkaaDoor.PFnExactCheapestWay Go.Proofs.YtbgjhdhdfdfpkaaDoorW.PrintWords Go.Proofs.YtbgjhdhdfdfpkaaDoorW.PrintLast Go.Proofs.YtbgjhdhdfdfpkaaDoorW.PrintMore
set_option linter.unusedVariables false
set_option linter.unusedSimpArgs false

theorem w64 {x : Int} (h1 : -9223372036854775808 ≤ x) (h2 : x ≤ 9223372036854775807) : wrap64 x = x := by unfold wrap64; omega
theorem w64s {i : Nat} (h : i ≤ 9000000000000000000) : wrap64 ((i : Int) + 1) = ((i + 1 : Nat) : Int) := by rw [w64 (by omega) (by omega)]; omega
theorem rd_nat (l : List Int) (i : Nat) (h : i < l.length) : rd l (i : Int) = l[i] := by simp [rd, List.getD_eq_getElem?_getD, h]
theorem wf64 {x : Int} (h : (Lit.int .i64 x).wf = true) : -9223372036854775808 ≤ x ∧ x ≤ 9223372036854775807 := by
  have := bounds_i64 h
  omega
def inr (lo hi x : Int) : Bool := decide (lo ≤ x) && decide (x ≤ hi)
theorem inr_iff (lo hi x : Int) : inr lo hi x = true ↔ lo ≤ x ∧ x ≤ hi := by simp [inr]
theorem inr_false (lo hi x : Int) : inr lo hi x = false ↔ ¬ (lo ≤ x ∧ x ≤ hi) := by rw [← inr_iff, Bool.not_eq_true]
theorem mx_of_lt {a b : Int} (h : a < b) : mx a b = b := if_pos h
theorem mx_of_ge {a b : Int} (h : b ≤ a) : mx a b = a := if_neg (by omega)
theorem mx_spec (a b : Int) : a ≤ mx a b ∧ b ≤ mx a b ∧ (mx a b = a ∨ mx a b = b) := by unfold mx; split <;> omega
theorem l1In_eq (a b c : Int) : spec_l1In.f a b c = some (inr b c a) := by
  unfold spec_l1In.f inr
  by_cases h : a ≥ b
  · rw [if_pos h]; simp [show b ≤ a from h]
  · rw [if_neg h]; simp [show ¬ b ≤ a from h]
theorem l1Most_eq (a b : Int) : spec_l1Most.f a b = some (mx a b) := by
  unfold spec_l1Most.f mx
  by_cases h : a > b
  · rw [if_pos h, if_neg (by omega)]
  · rw [if_neg h]
    by_cases h2 : a < b
    · rw [if_pos h2]
    · rw [if_neg h2, show a = b from by omega]
theorem l1Least_eq (a b : Int) : spec_l1Least.f a b = some (if a < b then a else b) := by
  unfold spec_l1Least.f
  split <;> rfl
theorem l1All_l0 (lo hi : Int) (l : List Int) (hl : l.length ≤ 9000000000000000000) : ∀ (d k i : Nat), i + d = l.length → d < k → spec_l1All.l0 k lo hi l (l.length : Int) (i : Int) = some ((l.drop i).all (inr lo hi)) := by
  intro d
  induction d with
  | zero =>
    intro k i hi' hk
    obtain ⟨k, rfl⟩ : ∃ m, k = m + 1 := ⟨k - 1, by omega⟩
    simp only [spec_l1All.l0]
    rw [if_neg (by omega), List.drop_of_length_le (by omega)]; rfl
  | succ d ih =>
    intro k i hi' hk
    obtain ⟨k, rfl⟩ : ∃ m, k = m + 1 := ⟨k - 1, by omega⟩
    have hlt : i < l.length := by omega
    simp only [spec_l1All.l0]
    rw [if_pos (by omega), if_pos (by omega), if_pos (by omega), l1In_eq, List.drop_eq_getElem_cons hlt, List.all_cons, rd_nat l i hlt, w64s (by omega), ih k (i + 1) (by omega) (by omega)]
    simp only [Option.bind_some]
    by_cases h : inr lo hi l[i] = true
    · rw [if_pos h, h, Bool.true_and]
    · rw [if_neg h, Bool.eq_false_iff.mpr h, Bool.false_and]
theorem l1All_eq (lo hi : Int) (l : List Int) (hl : l.length ≤ 9000000000000000000) (k : Nat) (hk : l.length < k) : spec_l1All.f k l lo hi = some (l.all (inr lo hi)) := by
  unfold spec_l1All.f
  exact l1All_l0 lo hi l hl l.length k 0 (by omega) hk
theorem eqIntS_l0 (l : List Int) (hl : l.length ≤ 9000000000000000000) : ∀ (d k i : Nat), i + d = l.length → d < k → laws_eqIntS.l0 k l l (i : Int) = some true := by
  intro d
  induction d with
  | zero =>
    intro k i hi' hk
    obtain ⟨k, rfl⟩ : ∃ m, k = m + 1 := ⟨k - 1, by omega⟩
    simp only [laws_eqIntS.l0]
    rw [if_neg (by omega)]
  | succ d ih =>
    intro k i hi' hk
    obtain ⟨k, rfl⟩ : ∃ m, k = m + 1 := ⟨k - 1, by omega⟩
    simp only [laws_eqIntS.l0]
    rw [if_pos (by omega), if_pos (by omega), if_pos (by omega), if_pos trivial, w64s (by omega)]
    exact ih k (i + 1) (by omega) (by omega)
theorem eqIntS_self (l : List Int) (hl : l.length ≤ 9000000000000000000) (k : Nat) (hk : l.length < k) : laws_eqIntS.f k l l = some true := by
  unfold laws_eqIntS.f
  rw [if_pos rfl]
  exact eqIntS_l0 l hl l.length k 0 (by omega) hk
/-- What 'mark' writes: numbers in their order. -/
def ramp (a : Int) (n : Nat) : List Int := (List.range n).map fun (i : Nat) => a + (i : Int)
theorem ramp_length (a : Int) (n : Nat) : (ramp a n).length = n := by simp [ramp]
theorem ramp_succ (a : Int) (n : Nat) : ramp a (n + 1) = ramp a n ++ [a + (n : Int)] := by simp [ramp, List.range_succ]
theorem ramp_at (a : Int) (n i : Nat) (h : i < n) : rd (ramp a n) (i : Int) = a + (i : Int) := by
  rw [rd_nat _ _ (by rw [ramp_length]; exact h)]
  simp [ramp]
theorem markIntS_l0 (a : Int) (ha : 0 ≤ a ∧ a ≤ 1000000000000000000) (l : List Int) (hl : l.length ≤ 1000000000000000000) : ∀ (d k i : Nat), i + d = l.length → d < k → laws_markIntS.l0 k (ramp a i ++ l.drop i) (a + (i : Int)) (i : Int) = some (a + (l.length : Int), ramp a l.length) := by
  intro d
  induction d with
  | zero =>
    intro k i hi' hk
    obtain ⟨k, rfl⟩ : ∃ m, k = m + 1 := ⟨k - 1, by omega⟩
    obtain rfl : i = l.length := by omega
    simp only [laws_markIntS.l0]
    rw [if_neg (by simp [ramp_length]), List.drop_of_length_le (Nat.le_refl _), List.append_nil]
  | succ d ih =>
    intro k i hi' hk
    obtain ⟨k, rfl⟩ : ∃ m, k = m + 1 := ⟨k - 1, by omega⟩
    have hlt : i < l.length := by omega
    simp only [laws_markIntS.l0]
    rw [if_pos (by simp [ramp_length]; omega), if_pos (by omega), Int.toNat_natCast, List.drop_eq_getElem_cons hlt]
    rw [List.set_append_right _ _ (by rw [ramp_length]; exact Nat.le_refl _), ramp_length, Nat.sub_self, List.set_cons_zero]
    rw [w64s (by omega), w64 (by omega) (by omega)]
    have h := ih k (i + 1) (by omega) (by omega)
    rw [ramp_succ, List.append_assoc, List.singleton_append, show a + ((i + 1 : Nat) : Int) = a + (i : Int) + 1 from by omega] at h
    exact h
theorem markIntS_eq (a : Int) (ha : 0 ≤ a ∧ a ≤ 1000000000000000000) (l : List Int) (hl : l.length ≤ 1000000000000000000) (k : Nat) (hk : l.length < k) : laws_markIntS.f k l a = some (a + (l.length : Int), ramp a l.length) := by
  unfold laws_markIntS.f
  have h := markIntS_l0 a ha l hl l.length k 0 (by omega) hk
  simpa [ramp] using h
theorem heldIntS_l0 (a : Int) (ha : 0 ≤ a ∧ a ≤ 1000000000000000000) (n : Nat) (hl : n ≤ 1000000000000000000) : ∀ (d k i : Nat), i + d = n → d < k → laws_heldIntS.l0 k (ramp a n) (a + (i : Int)) (i : Int) = some (a + (n : Int)) := by
  intro d
  induction d with
  | zero =>
    intro k i hi' hk
    obtain ⟨k, rfl⟩ : ∃ m, k = m + 1 := ⟨k - 1, by omega⟩
    obtain rfl : i = n := by omega
    simp only [laws_heldIntS.l0]
    rw [if_neg (by rw [ramp_length]; omega)]
  | succ d ih =>
    intro k i hi' hk
    obtain ⟨k, rfl⟩ : ∃ m, k = m + 1 := ⟨k - 1, by omega⟩
    simp only [laws_heldIntS.l0]
    rw [if_pos (by rw [ramp_length]; omega), if_pos (by omega), ramp_at a n i (by omega), if_pos rfl, w64s (by omega), w64 (by omega) (by omega)]
    have h := ih k (i + 1) (by omega) (by omega)
    rw [show a + ((i + 1 : Nat) : Int) = a + (i : Int) + 1 from by omega] at h
    exact h
theorem heldIntS_eq (a : Int) (ha : 0 ≤ a ∧ a ≤ 1000000000000000000) (n : Nat) (hl : n ≤ 1000000000000000000) (k : Nat) (hk : n < k) : laws_heldIntS.f k (ramp a n) a = some (a + (n : Int)) := by
  unfold laws_heldIntS.f
  have h := heldIntS_l0 a ha n hl n k 0 (by omega) hk
  simpa using h

theorem ev_loop {β : Type} {F : Nat → Nat → Option β} {n : Nat} {res : Nat → β} (last : ∃ K, ∀ k, K ≤ k → F k n = some (res n)) (step : ∀ i, i < n → ∀ K, (∀ k, K ≤ k → F k (i + 1) = some (res (i + 1))) → ∃ K, ∀ k, K ≤ k → F k i = some (res i)) : ∀ i, i ≤ n → ∃ K, ∀ k, K ≤ k → F k i = some (res i) := by
  have key : ∀ d i, i + d = n → ∃ K, ∀ k, K ≤ k → F k i = some (res i) := by
    intro d
    induction d with
    | zero => intro i h; obtain rfl : i = n := by omega
              exact last
    | succ d ih =>
      intro i h
      obtain ⟨K, hK⟩ := ih (i + 1) (by omega)
      exact step i (by omega) K hK
  exact fun i h => key (n - i) i (by omega)
/-- One round more. -/
theorem ev_suc {β : Type} {g : Nat → Option β} {r : β} (K : Nat) (h : ∀ k, K ≤ k → g (k + 1) = some r) : ∃ K, ∀ k, K ≤ k → g k = some r :=
  ⟨K + 1, fun k hk => by obtain ⟨k, rfl⟩ : ∃ m, k = m + 1 := ⟨k - 1, by omega⟩; exact h k (by omega)⟩
theorem fill_step {α : Type} (l : List α) (z : α) (i : Nat) (h : i < l.length) : (l.take i ++ List.replicate (l.length - i) z).set i l[i] = l.take (i + 1) ++ List.replicate (l.length - (i + 1)) z := by
  have e : l.length - i = (l.length - (i + 1)) + 1 := by omega
  rw [List.set_append_right _ _ (by rw [List.length_take]; omega), List.length_take, Nat.min_eq_left (by omega), Nat.sub_self, e, List.replicate_succ, List.set_cons_zero, List.take_succ_eq_append_getElem h, List.append_assoc, List.singleton_append]
theorem fill_length {α : Type} (l : List α) (z : α) (i : Nat) (h : i ≤ l.length) : (l.take i ++ List.replicate (l.length - i) z).length = l.length := by
  rw [List.length_append, List.length_take, List.length_replicate]; omega
theorem fill_last {α : Type} (l : List α) (z : α) : l.take l.length ++ List.replicate (l.length - l.length) z = l := by simp
/-- What 'sz' leaves: where it isn't below 0, the row is no longer than that. -/
theorem szIntS_ev (l : List Int) (a : Int) (ha : 0 ≤ a ∧ a ≤ 1048576) (hl : l.length ≤ maxLen) : ∃ r, laws_szIntS.f l a = some r ∧ (0 ≤ r → r = a - l.length) ∧ (r < 0 → a < l.length) := by
  simp only [maxLen] at hl
  unfold laws_szIntS.f
  rw [w64 (by omega) (by omega)]
  by_cases h : a - (l.length : Int) < 0
  · exact ⟨-1, by rw [if_pos h], fun h2 => by omega, fun _ => by omega⟩
  · exact ⟨a - (l.length : Int), by rw [if_neg h], fun _ => rfl, fun h2 => by omega⟩
theorem toIntS_ev (l : List Int) (hl : l.length ≤ 1048576) : ∃ K, ∀ k, K ≤ k → laws_toIntS.f k l = some l := by
  have h := ev_loop (F := fun k i => laws_toIntS.l0 k l (l.take i ++ List.replicate (l.length - i) 0) (i : Int)) (n := l.length) (res := fun _ => l)
    (ev_suc 0 fun k _ => by simp only [laws_toIntS.l0]; rw [if_neg (by omega), fill_last])
    (fun i hi K hK => ev_suc K fun k hk => by
      simp only [laws_toIntS.l0]
      rw [if_pos (by omega), if_pos (by omega), if_pos (by rw [fill_length l 0 i (by omega)]; omega), Int.toNat_natCast, rd_nat l i hi, fill_step l 0 i hi, w64s (by omega)]
      exact hK k hk) 0 (Nat.zero_le _)
  obtain ⟨K, h⟩ := h
  refine ⟨K, fun k hk => ?_⟩
  unfold laws_toIntS.f
  rw [if_pos (by omega), if_pos (by omega), Int.toNat_natCast]
  simpa using h k hk
theorem eqIntS_ev (l : List Int) (hl : l.length ≤ 1048576) : ∃ K, ∀ k, K ≤ k → laws_eqIntS.f k l l = some true :=
  ⟨l.length + 1, fun k hk => eqIntS_self l (by omega) k (by omega)⟩
theorem markIntS_ev (l : List Int) (hl : l.length ≤ 1048576) (a : Int) (ha : 0 ≤ a ∧ a ≤ 1000000000000000000) : ∃ K, ∀ k, K ≤ k → laws_markIntS.f k l a = some (a + (l.length : Int), ramp a l.length) :=
  ⟨l.length + 1, fun k hk => markIntS_eq a ha l (by omega) k (by omega)⟩
theorem heldIntS_ev (n : Nat) (hl : n ≤ 1048576) (a : Int) (ha : 0 ≤ a ∧ a ≤ 1000000000000000000) : ∃ K, ∀ k, K ≤ k → laws_heldIntS.f k (ramp a n) a = some (a + (n : Int)) :=
  ⟨n + 1, fun k hk => heldIntS_eq a ha n (by omega) k (by omega)⟩
theorem l1All_ev (lo hi : Int) (l : List Int) (hl : l.length ≤ 1048576) : ∃ K, ∀ k, K ≤ k → spec_l1All.f k l lo hi = some (l.all (inr lo hi)) :=
  ⟨l.length + 1, fun k hk => l1All_eq lo hi l (by omega) k (by omega)⟩

theorem szTerrain_ev (x y : Int) (l : List Int) (s u d t : Int) (a : Int) (ha : 0 ≤ a ∧ a ≤ 1048576) (hl : l.length ≤ maxLen) : ∃ r, laws_szTerrain.f x y l s u d t a = some r ∧ (0 ≤ r → (l.length : Int) ≤ a) := by
  unfold laws_szTerrain.f
  obtain ⟨r1, h1, h2, h3⟩ := szIntS_ev l a ha hl
  rw [h1]
  simp only [Option.bind_some]
  by_cases n1 : r1 < 0
  · exact ⟨-1, by rw [if_pos n1], fun h => by omega⟩
  · exact ⟨r1, by rw [if_neg n1], fun h => by have := h2 h; omega⟩
theorem toTerrain_ev (x y : Int) (l : List Int) (s u d t : Int) (hl : l.length ≤ 1048576) : ∃ K, ∀ k, K ≤ k → laws_toTerrain.f k x y l s u d t = some (x, y, l, s, u, d, t) := by
  obtain ⟨K1, h1⟩ := toIntS_ev l hl
  exact ⟨K1, fun k hk => by simp (disch := omega) only [laws_toTerrain.f, h1, Option.bind_some]⟩
theorem eqTerrain_ev (x y : Int) (l : List Int) (s u d t : Int) (hl : l.length ≤ 1048576) : ∃ K, ∀ k, K ≤ k → laws_eqTerrain.f k x y l s u d t x y l s u d t = some true := by
  obtain ⟨K1, h1⟩ := eqIntS_ev l hl
  exact ⟨K1, fun k hk => by simp (disch := omega) only [laws_eqTerrain.f, h1, Option.bind_some, if_true]⟩
def terrOk (x y : Int) (l : List Int) (s u d t : Int) : Bool := inr 1 8 x && (inr 1 6 y && (decide ((l.length : Int) = x * y) && (l.all (inr 0 200) && (inr 0 200 s && [u, d, t].all (inr 0 100)))))
structure Terr (X Y : Int) (H : List Int) (S U D R : Int) : Prop where
  x : 1 ≤ X ∧ X ≤ 8
  y : 1 ≤ Y ∧ Y ≤ 6
  len : (H.length : Int) = X * Y
  all : ∀ h ∈ H, 0 ≤ h ∧ h ≤ 200
  s : 0 ≤ S ∧ S ≤ 200
  u : 0 ≤ U ∧ U ≤ 100
  d : 0 ≤ D ∧ D ≤ 100
  t : 0 ≤ R ∧ R ≤ 100
theorem terrOk_iff (x y : Int) (l : List Int) (s u d t : Int) : terrOk x y l s u d t = true ↔ Terr x y l s u d t := by
  simp only [terrOk, Bool.and_eq_true, inr_iff, decide_eq_true_eq, List.all_eq_true, List.mem_cons, List.not_mem_nil, or_false]
  constructor
  · rintro ⟨h1, h2, h3, h4, h5, h6⟩
    exact ⟨h1, h2, h3, h4, h5, h6 u (.inl rfl), h6 d (.inr (.inl rfl)), h6 t (.inr (.inr rfl))⟩
  · rintro ⟨h1, h2, h3, h4, h5, h6, h7, h8⟩
    refine ⟨h1, h2, h3, h4, h5, ?_⟩
    rintro z (rfl | rfl | rfl)
    · exact h6
    · exact h7
    · exact h8
theorem xy_bounds {x y : Int} (hx : 1 ≤ x ∧ x ≤ 8) (hy : 1 ≤ y ∧ y ≤ 6) : 1 ≤ x * y ∧ x * y ≤ 48 := by
  have h1 : 1 * 1 ≤ x * y := Int.mul_le_mul hx.1 hy.1 (by omega) (by omega)
  have h2 : x * y ≤ 8 * 6 := Int.mul_le_mul hx.2 hy.2 (by omega) (by omega)
  omega
theorem roGood_ev (x y : Int) (l : List Int) (s u d t : Int) (hl : l.length ≤ 1048576) : ∃ K, ∀ k, K ≤ k → spec_roGood.f k x y l s u d t = some (terrOk x y l s u d t) := by
  obtain ⟨K1, h1⟩ := l1All_ev 0 200 l hl
  refine ⟨K1 + 10, fun k hk => ?_⟩
  have h2 := l1All_eq 0 100 [u, d, t] (by simp) k (by simp; omega)
  unfold spec_roGood.f terrOk
  simp only [l1In_eq, Option.bind_some, h1 k (by omega), h2]
  by_cases hx : inr 1 8 x = true
  · by_cases hy : inr 1 6 y = true
    · have hb := xy_bounds ((inr_iff _ _ _).1 hx) ((inr_iff _ _ _).1 hy)
      rw [if_pos hx, if_pos hy, hx, hy, w64 (x := x * y) (by omega) (by omega)]
      by_cases h3 : (l.length : Int) = x * y
      · rw [if_pos h3, decide_eq_true h3]
        cases l.all (inr 0 200) <;> cases inr 0 200 s <;> simp
      · rw [if_neg h3, decide_eq_false h3]; rfl
    · rw [if_pos hx, if_neg hy, hx, Bool.eq_false_iff.mpr hy]; rfl
  · rw [if_neg hx, Bool.eq_false_iff.mpr hx]; rfl
theorem isTerrain_l1 (l : List Int) (hl : l.length ≤ 1048576) : ∃ K, ∀ k, K ≤ k → impl_IsTerrain.l1 k l (l.length : Int) 0 = some (l.all (inr 0 100)) := by
  have h := ev_loop (F := fun k i => impl_IsTerrain.l1 k l (l.length : Int) (i : Int)) (n := l.length) (res := fun i => (l.drop i).all (inr 0 100))
    (ev_suc 0 fun k _ => by
      simp only [impl_IsTerrain.l1]
      rw [if_neg (by omega), List.drop_of_length_le (Nat.le_refl _)]
      rfl)
    (fun j hj K hK => ev_suc K fun k hk => by
      simp only [impl_IsTerrain.l1]
      rw [if_pos (by omega), if_pos (by omega), if_pos (by omega), rd_nat l j hj, List.drop_eq_getElem_cons hj, List.all_cons]
      by_cases h1 : l[j] < 0
      · rw [if_pos h1, (inr_false _ _ _).2 (by omega)]; rfl
      · rw [if_neg h1]
        by_cases h2 : l[j] > 100
        · rw [if_pos h2, (inr_false _ _ _).2 (by omega)]; rfl
        · rw [if_neg h2, (inr_iff _ _ _).2 (by omega), w64s (by omega), hK k hk]; rfl) 0 (Nat.zero_le _)
  exact h
theorem implIsTerrain_ev (x y : Int) (l : List Int) (s u d t : Int) (hl : l.length ≤ 1048576) : ∃ K, ∀ k, K ≤ k → impl_IsTerrain.f k x y l s u d t = some (terrOk x y l s u d t) := by
  obtain ⟨K1, h1⟩ := isTerrain_l1 [u, d, t] (by simp)
  have h := ev_loop (F := fun k i => impl_IsTerrain.l0 k l (l.length : Int) (i : Int) x y l s u d t) (n := l.length) (res := fun i => (l.drop i).all (inr 0 200) && [u, d, t].all (inr 0 100))
    (ev_suc K1 fun k hk => by
      simp only [impl_IsTerrain.l0]
      rw [if_neg (by omega), List.drop_of_length_le (Nat.le_refl _)]
      simp only [Option.bind_some]
      rw [h1 k hk]
      rfl)
    (fun j hj K hK => ev_suc K fun k hk => by
      simp only [impl_IsTerrain.l0]
      rw [if_pos (by omega), if_pos (by omega), if_pos (by omega), rd_nat l j hj, List.drop_eq_getElem_cons hj, List.all_cons]
      by_cases h1 : l[j] < 0
      · rw [if_pos h1, (inr_false _ _ _).2 (by omega)]; rfl
      · rw [if_neg h1]
        by_cases h2 : l[j] > 200
        · rw [if_pos h2, (inr_false _ _ _).2 (by omega)]; rfl
        · rw [if_neg h2, (inr_iff _ _ _).2 (by omega), w64s (by omega), hK k hk]; rfl) 0 (Nat.zero_le _)
  obtain ⟨K, h⟩ := h
  refine ev_suc K fun k hk => ?_
  have h := h k hk
  have hj : ∀ b, impl_IsTerrain.j0 (k + 1) b x y l s u d t = some (!b && (l.all (inr 0 200) && [u, d, t].all (inr 0 100))) := by
    intro b
    simp only [impl_IsTerrain.j0]
    cases b
    · rw [if_neg (by simp)]
      simpa using h
    · rw [if_pos rfl]; rfl
  unfold impl_IsTerrain.f terrOk
  simp only [hj]
  by_cases h1 : x < 1
  · rw [if_pos h1, (inr_false 1 8 x).2 (by omega)]; rfl
  · rw [if_neg h1]
    by_cases h2 : x > 8
    · rw [if_pos h2, (inr_false 1 8 x).2 (by omega)]; rfl
    · rw [if_neg h2, (inr_iff 1 8 x).2 (by omega)]
      by_cases h3 : y < 1
      · rw [if_pos h3, (inr_false 1 6 y).2 (by omega)]; rfl
      · rw [if_neg h3]
        by_cases h4 : y > 6
        · rw [if_pos h4, (inr_false 1 6 y).2 (by omega)]; rfl
        · have hb := xy_bounds (x := x) (y := y) (by omega) (by omega)
          rw [if_neg h4, (inr_iff 1 6 y).2 (by omega), w64 (x := x * y) (by omega) (by omega)]
          by_cases h5 : (l.length : Int) = x * y
          · rw [if_pos h5, decide_eq_true h5]
            by_cases h6 : s < 0
            · rw [if_pos h6, (inr_false 0 200 s).2 (by omega)]; simp
            · rw [if_neg h6]
              by_cases h7 : s > 200
              · rw [decide_eq_true h7, (inr_false 0 200 s).2 (by omega)]; simp
              · rw [decide_eq_false h7, (inr_iff 0 200 s).2 (by omega)]; simp
          · rw [if_neg h5, decide_eq_false h5]; rfl
/-! Cells and sides: 0 to 3 for north, east, south and west. -/
theorem cell_split {X : Int} (hX : 1 ≤ X) (x y c : Int) (hx : 0 ≤ x ∧ x < X) : y * X + x = c ↔ c / X = y ∧ c % X = x := by
  rw [Int.ediv_emod_unique (by omega), Int.mul_comm X y]
  constructor
  · intro h; exact ⟨by omega, hx⟩
  · rintro ⟨h, _⟩; omega
/-- The cell at a side, or -1. -/
def nbXY (X Y x y : Int) : Int := if 0 ≤ x ∧ x < X ∧ 0 ≤ y ∧ y < Y then y * X + x else -1
def nbOf (X Y c d : Int) : Int := if d = 0 then nbXY X Y (c % X) (c / X + 1) else if d = 1 then nbXY X Y (c % X + 1) (c / X) else if d = 2 then nbXY X Y (c % X) (c / X - 1) else nbXY X Y (c % X - 1) (c / X)
theorem cell_coords {X Y c : Int} (hX : 1 ≤ X ∧ X ≤ 8) (hY : 1 ≤ Y ∧ Y ≤ 6) (h0 : 0 ≤ c) (h1 : c < X * Y) : 0 ≤ c % X ∧ c % X < X ∧ 0 ≤ c / X ∧ c / X < Y ∧ Int.tmod c X = c % X ∧ Int.tdiv c X = c / X := by
  refine ⟨Int.emod_nonneg _ (by omega), Int.emod_lt_of_pos _ (by omega), Int.ediv_nonneg h0 (by omega), ?_, Int.tmod_eq_emod_of_nonneg h0, Int.tdiv_eq_ediv_of_nonneg h0⟩
  exact Int.ediv_lt_of_lt_mul (by omega) (by rw [Int.mul_comm]; exact h1)
theorem roNeighbour_ev {X Y : Int} (hX : 1 ≤ X ∧ X ≤ 8) (hY : 1 ≤ Y ∧ Y ≤ 6) (l : List Int) (s u d t : Int) {c : Int} (h0 : 0 ≤ c) (h1 : c < X * Y) (e : Int) (k : Nat) (hk : 1 ≤ k) : spec_roNeighbour.f k X Y l s u d t c e = some (nbOf X Y c e) := by
  obtain ⟨k, rfl⟩ : ∃ m, k = m + 1 := ⟨k - 1, by omega⟩
  obtain ⟨c1, c2, c3, c4, c5, c6⟩ := cell_coords hX hY h0 h1
  have hj : ∀ x y : Int, -1 ≤ x → x ≤ X → -1 ≤ y → y ≤ Y → spec_roNeighbour.j0 (k + 1) x y X Y l s u d t = some (nbXY X Y x y) := by
    intro x y hx1 hx2 hy1 hy2
    simp only [spec_roNeighbour.j0, l1In_eq, Option.bind_some]
    rw [w64 (x := X - 1) (by omega) (by omega), w64 (x := Y - 1) (by omega) (by omega)]
    unfold nbXY
    by_cases hx : 0 ≤ x ∧ x < X
    · rw [if_pos ((inr_iff _ _ _).2 (by omega))]
      by_cases hy : 0 ≤ y ∧ y < Y
      · have h3 : 0 ≤ y * X := Int.mul_nonneg hy.1 (by omega)
        have h4 : y * X ≤ 6 * 8 := Int.mul_le_mul (by omega) hX.2 (by omega) (by omega)
        rw [if_pos ((inr_iff _ _ _).2 (by omega)), if_pos ⟨hx.1, hx.2, hy⟩, w64 (x := y * X) (by omega) (by omega), w64 (by omega) (by omega)]
      · rw [if_neg (fun h => hy (by have := (inr_iff _ _ _).1 h; omega)), if_neg (fun h => hy ⟨h.2.2.1, h.2.2.2⟩)]
    · rw [if_neg (fun h => hx (by have := (inr_iff _ _ _).1 h; omega)), if_neg (fun h => hx ⟨h.1, h.2.1⟩)]
  unfold spec_roNeighbour.f nbOf
  rw [if_neg (by omega), c5, c6, w64 (x := c / X) (by omega) (by omega), w64 (x := c / X + 1) (by omega) (by omega), w64 (x := c % X + 1) (by omega) (by omega), w64 (x := c / X - 1) (by omega) (by omega), w64 (x := c % X - 1) (by omega) (by omega)]
  rw [hj _ _ (by omega) (by omega) (by omega) (by omega), hj _ _ (by omega) (by omega) (by omega) (by omega), hj _ _ (by omega) (by omega) (by omega) (by omega), hj _ _ (by omega) (by omega) (by omega) (by omega)]
  split
  · rfl
  · split
    · rfl
    · split <;> rfl
def ab (a : Int) : Int := mx a (-a)
theorem ab_spec (a : Int) : (0 ≤ a → ab a = a) ∧ (a ≤ 0 → ab a = -a) := by unfold ab mx; split <;> omega
theorem l1Abs_eq {a : Int} (h1 : -1000000 ≤ a) (h2 : a ≤ 1000000) : spec_l1Abs.f a = some (ab a) := by
  unfold spec_l1Abs.f ab
  rw [l1Most_eq, w64 (by omega) (by omega)]; rfl
theorem implAbs_eq {a : Int} (h1 : -1000000 ≤ a) (h2 : a ≤ 1000000) : impl_abs.f a = some (ab a) := by
  unfold impl_abs.f ab
  rw [w64 (by omega) (by omega)]
/-- The cost of a step between neighbours, or -1. -/
def costOf (l : List Int) (s u d a b : Int) : Int := if s < ab (rd l b - rd l a) then -1 else if 0 < rd l b - rd l a then 1 + (rd l b - rd l a) * u else 1 - (rd l b - rd l a) * d
theorem terr_at {x y : Int} {l : List Int} {s u d t : Int} (T : Terr x y l s u d t) {a : Int} (h0 : 0 ≤ a) (h1 : a < x * y) : 0 ≤ rd l a ∧ rd l a ≤ 200 ∧ a < (l.length : Int) := by
  obtain ⟨i, rfl⟩ := Int.eq_ofNat_of_zero_le h0
  have hl := T.len
  have hi : i < l.length := by omega
  rw [rd_nat l i hi]
  have := T.all _ (List.getElem_mem hi)
  omega
theorem mul_bounds {h u : Int} (hh : 0 ≤ h ∧ h ≤ 200) (hu : 0 ≤ u ∧ u ≤ 100) : 0 ≤ h * u ∧ h * u ≤ 20000 :=
  ⟨Int.mul_nonneg hh.1 hu.1, by have := Int.mul_le_mul hh.2 hu.2 hu.1 (by omega); omega⟩
theorem cost_facts {x y : Int} {l : List Int} {s u d t : Int} (T : Terr x y l s u d t) {a b : Int} (ha : 0 ≤ a ∧ a < x * y) (hb : 0 ≤ b ∧ b < x * y) : (costOf l s u d a b = -1 ∨ 1 ≤ costOf l s u d a b) ∧ costOf l s u d a b ≤ 20001 ∧ spec_roCost.f x y l s u d t a b = some (costOf l s u d a b) := by
  have h1 := terr_at T ha.1 ha.2
  have h2 := terr_at T hb.1 hb.2
  have hs := T.s
  have hab := ab_spec (rd l b - rd l a)
  unfold spec_roCost.f
  rw [if_pos hb.1, if_pos h2.2.2, if_pos ha.1, if_pos h1.2.2, w64 (x := rd l b - rd l a) (by omega) (by omega), l1Abs_eq (by omega) (by omega)]
  simp only [Option.bind_some]
  unfold costOf
  by_cases g1 : s < ab (rd l b - rd l a)
  · rw [if_pos g1, if_pos g1]
    exact ⟨.inl rfl, by omega, rfl⟩
  · rw [if_neg g1, if_neg g1]
    by_cases g2 : 0 < rd l b - rd l a
    · have m := mul_bounds (h := rd l b - rd l a) (u := u) (by omega) T.u
      rw [if_pos g2, if_pos g2, w64 (x := (rd l b - rd l a) * u) (by omega) (by omega), w64 (by omega) (by omega)]
      exact ⟨.inr (by omega), by omega, rfl⟩
    · have m := mul_bounds (h := -(rd l b - rd l a)) (u := d) (by omega) T.d
      rw [Int.neg_mul] at m
      rw [if_neg g2, if_neg g2, w64 (x := (rd l b - rd l a) * d) (by omega) (by omega), w64 (by omega) (by omega)]
      exact ⟨.inr (by omega), by omega, rfl⟩
/-- Are two cells neighbours? -/
def nextTo (X a b : Int) : Prop := ab (b % X - a % X) + ab (b / X - a / X) = 1
instance (X a b : Int) : Decidable (nextTo X a b) := by unfold nextTo; exact inferInstance
theorem implStepCost_eq {x y : Int} {l : List Int} {s u d t : Int} (T : Terr x y l s u d t) {a b : Int} (ha : 0 ≤ a ∧ a < x * y) (hb : 0 ≤ b ∧ b < x * y) : impl_stepCost.f x y l s u d t a b = some (if nextTo x a b then costOf l s u d a b else -1) := by
  have h1 := terr_at T ha.1 ha.2
  have h2 := terr_at T hb.1 hb.2
  have hx := T.x
  have hy := T.y
  obtain ⟨a1, a2, a3, a4, a5, a6⟩ := cell_coords T.x T.y ha.1 ha.2
  obtain ⟨b1, b2, b3, b4, b5, b6⟩ := cell_coords T.x T.y hb.1 hb.2
  have p1 := ab_spec (b % x - a % x)
  have p2 := ab_spec (b / x - a / x)
  have p3 := ab_spec (rd l b - rd l a)
  unfold impl_stepCost.f
  rw [if_pos hb.1, if_pos h2.2.2, if_pos ha.1, if_pos h1.2.2, if_neg (by omega), a5, a6, b5, b6, w64 (x := b % x - a % x) (by omega) (by omega), w64 (x := b / x) (by omega) (by omega), w64 (x := a / x) (by omega) (by omega), w64 (x := b / x - a / x) (by omega) (by omega), implAbs_eq (by omega) (by omega), implAbs_eq (by omega) (by omega)]
  simp only [Option.bind_some]
  rw [w64 (x := ab (b % x - a % x) + ab (b / x - a / x)) (by omega) (by omega)]
  by_cases g : nextTo x a b
  · have g' : ab (b % x - a % x) + ab (b / x - a / x) = 1 := g
    rw [if_pos g, if_pos g', w64 (x := rd l b - rd l a) (by omega) (by omega), implAbs_eq (by omega) (by omega)]
    simp only [Option.bind_some]
    unfold costOf
    by_cases g1 : s < ab (rd l b - rd l a)
    · rw [if_pos g1, if_pos g1]
    · rw [if_neg g1, if_neg g1, w64 (x := -(rd l b - rd l a)) (by omega) (by omega)]
      by_cases g2 : 0 < rd l b - rd l a
      · have m := mul_bounds (h := rd l b - rd l a) (u := u) (by omega) T.u
        rw [if_pos g2, mx_of_lt g2, mx_of_ge (by omega), Int.zero_mul, w64 (x := (rd l b - rd l a) * u) (by omega) (by omega), w64 (x := 1 + (rd l b - rd l a) * u) (by omega) (by omega), w64 (x := 0) (by omega) (by omega), Int.add_zero, w64 (by omega) (by omega)]
      · have m := mul_bounds (h := -(rd l b - rd l a)) (u := d) (by omega) T.d
        have e : mx 0 (-(rd l b - rd l a)) = -(rd l b - rd l a) := by
          unfold mx
          split <;> omega
        have e2 := Int.neg_mul (rd l b - rd l a) d
        rw [if_neg g2, mx_of_ge (by omega), e, Int.zero_mul, w64 (x := 0) (by omega) (by omega), Int.add_zero, w64 (x := 1) (by omega) (by omega), w64 (x := -(rd l b - rd l a) * d) (by omega) (by omega), w64 (by omega) (by omega), e2]
        congr 1
  · have g' : ¬ ab (b % x - a % x) + ab (b / x - a / x) = 1 := g
    rw [if_neg g, if_neg g']
theorem areCells_ev (x y : Int) (l : List Int) (s u d t : Int) (hl : l.length ≤ 1048576) (c : List Int) (hc : c.length ≤ 1048576) : ∃ K, ∀ k, K ≤ k → impl_areCells.f k x y l s u d t c = some (terrOk x y l s u d t && c.all (inr 0 ((l.length : Int) - 1))) := by
  obtain ⟨K1, h1⟩ := implIsTerrain_ev x y l s u d t hl
  have h := ev_loop (F := fun k i => impl_areCells.l0 k c (c.length : Int) (i : Int) x y l s u d t) (n := c.length) (res := fun i => (c.drop i).all (inr 0 ((l.length : Int) - 1)))
    (ev_suc 0 fun k _ => by
      simp only [impl_areCells.l0]
      rw [if_neg (by omega), List.drop_of_length_le (Nat.le_refl _)]
      rfl)
    (fun j hj K hK => ev_suc K fun k hk => by
      simp only [impl_areCells.l0]
      rw [if_pos (by omega), if_pos (by omega), if_pos (by omega), rd_nat c j hj, List.drop_eq_getElem_cons hj, List.all_cons]
      by_cases h1 : c[j] < 0
      · rw [if_pos h1, (inr_false _ _ _).2 (by omega)]; rfl
      · rw [if_neg h1]
        by_cases h2 : c[j] ≥ (l.length : Int)
        · rw [if_pos h2, (inr_false _ _ _).2 (by omega)]; rfl
        · rw [if_neg h2, (inr_iff _ _ _).2 (by omega), w64s (by omega), hK k hk]; rfl) 0 (Nat.zero_le _)
  obtain ⟨K2, h2⟩ := h
  refine ⟨K1 + K2, fun k hk => ?_⟩
  unfold impl_areCells.f
  rw [h1 k (by omega)]
  simp only [Option.bind_some]
  by_cases g : terrOk x y l s u d t = true
  · rw [if_pos g, g, Bool.true_and]
    exact h2 k (by omega)
  · rw [if_neg g, Bool.eq_false_iff.mpr g, Bool.false_and]
theorem roCell_ev (x y : Int) (l : List Int) (s u d t : Int) (hl : l.length ≤ 1048576) (c : Int) : ∃ K, ∀ k, K ≤ k → spec_roCell.f k x y l s u d t c = some (terrOk x y l s u d t && inr 0 ((l.length : Int) - 1) c) := by
  obtain ⟨K1, h1⟩ := roGood_ev x y l s u d t hl
  refine ⟨K1, fun k hk => ?_⟩
  unfold spec_roCell.f
  rw [h1 k (by omega)]
  simp only [Option.bind_some]
  by_cases g : terrOk x y l s u d t = true
  · have T := (terrOk_iff _ _ _ _ _ _ _).1 g
    have hb := xy_bounds T.x T.y
    rw [if_pos g, g, Bool.true_and, l1In_eq, w64 (x := x * y) (by omega) (by omega), w64 (x := x * y - 1) (by omega) (by omega), T.len]
    rfl
  · rw [if_neg g, Bool.eq_false_iff.mpr g, Bool.false_and]
theorem markTerrain_ev (x y : Int) (l : List Int) (s u d t : Int) (hl : l.length ≤ 1048576) : ∃ K, ∀ k, K ≤ k → laws_markTerrain.f k x y l s u d t 1 = some (1 + (l.length : Int), ramp 1 l.length) := by
  obtain ⟨K, h⟩ := markIntS_ev l hl 1 (by omega)
  exact ⟨K, fun k hk => by simp (disch := omega) only [laws_markTerrain.f, h, Option.bind_some]⟩
/-- The reference's number of the program's side. -/
def sg (e : Int) : Int := if e = 0 then 2 else if e = 1 then 3 else if e = 2 then 1 else 0
theorem sideOf_eq {X Y : Int} (hX : 1 ≤ X ∧ X ≤ 8) (hY : 1 ≤ Y ∧ Y ≤ 6) (l : List Int) (s u d t : Int) {c : Int} (h0 : 0 ≤ c) (h1 : c < X * Y) (e : Int) : impl_sideOf.f X Y l s u d t c e = some (nbOf X Y c (sg e)) := by
  obtain ⟨c1, c2, c3, c4, c5, c6⟩ := cell_coords hX hY h0 h1
  have hj : ∀ x y : Int, -1 ≤ x → x ≤ X → -1 ≤ y → y ≤ Y → (if x < 0 then some (-1) else if x ≥ X then some (-1) else if y < 0 then some (-1) else if y ≥ Y then some (-1) else some (wrap64 (wrap64 (y * X) + x))) = some (nbXY X Y x y) := by
    intro x y hx1 hx2 hy1 hy2
    unfold nbXY
    by_cases hx : 0 ≤ x ∧ x < X
    · rw [if_neg (by omega), if_neg (by omega)]
      by_cases hy : 0 ≤ y ∧ y < Y
      · have h3 : 0 ≤ y * X := Int.mul_nonneg hy.1 (by omega)
        have h4 : y * X ≤ 6 * 8 := Int.mul_le_mul (by omega) hX.2 (by omega) (by omega)
        rw [if_neg (by omega), if_neg (by omega), if_pos ⟨hx.1, hx.2, hy⟩, w64 (x := y * X) (by omega) (by omega), w64 (by omega) (by omega)]
      · have hn : ¬ (0 ≤ x ∧ x < X ∧ 0 ≤ y ∧ y < Y) := by omega
        rw [if_neg hn]
        by_cases g : y < 0
        · rw [if_pos g]
        · rw [if_neg g, if_pos (by omega)]
    · have hn : ¬ (0 ≤ x ∧ x < X ∧ 0 ≤ y ∧ y < Y) := by omega
      rw [if_neg hn]
      by_cases g : x < 0
      · rw [if_pos g]
      · rw [if_neg g, if_pos (by omega)]
  unfold impl_sideOf.f nbOf sg
  rw [if_neg (by omega), c5, c6, w64 (x := c / X) (by omega) (by omega), w64 (x := c / X + 1) (by omega) (by omega), w64 (x := c % X + 1) (by omega) (by omega), w64 (x := c / X - 1) (by omega) (by omega), w64 (x := c % X - 1) (by omega) (by omega)]
  rw [hj _ _ (by omega) (by omega) (by omega) (by omega), hj _ _ (by omega) (by omega) (by omega) (by omega), hj _ _ (by omega) (by omega) (by omega) (by omega), hj _ _ (by omega) (by omega) (by omega) (by omega)]
  by_cases e0 : e = 0
  · simp [e0]
  · by_cases e1 : e = 1
    · simp [e1]
    · by_cases e2 : e = 2
      · simp [e2]
      · simp [e0, e1, e2]
theorem nb_facts {X Y : Int} (hX : 1 ≤ X ∧ X ≤ 8) (hY : 1 ≤ Y ∧ Y ≤ 6) {c : Int} (h0 : 0 ≤ c) (h1 : c < X * Y) (d : Int) (hn : 0 ≤ nbOf X Y c d) : nbOf X Y c d < X * Y ∧ nextTo X c (nbOf X Y c d) := by
  obtain ⟨c1, c2, c3, c4, _, _⟩ := cell_coords hX hY h0 h1
  have key : ∀ x y : Int, 0 ≤ nbXY X Y x y → (0 ≤ x ∧ x < X ∧ 0 ≤ y ∧ y < Y) ∧ nbXY X Y x y < X * Y ∧ nbXY X Y x y % X = x ∧ nbXY X Y x y / X = y := by
    intro x y h
    unfold nbXY at h ⊢
    by_cases g : 0 ≤ x ∧ x < X ∧ 0 ≤ y ∧ y < Y
    · rw [if_pos g]
      have hs := (cell_split hX.1 x y (y * X + x) ⟨g.1, g.2.1⟩).1 rfl
      refine ⟨g, ?_, hs.2, hs.1⟩
      have h5 : (y + 1) * X ≤ Y * X := Int.mul_le_mul_of_nonneg_right (by omega) (by omega)
      rw [Int.add_mul, Int.one_mul, Int.mul_comm Y X] at h5
      omega
    · rw [if_neg g] at h; omega
  unfold nextTo
  unfold nbOf at hn ⊢
  split at hn
  · rename_i g; rw [if_pos g] 
    obtain ⟨k1, k2, k3, k4⟩ := key _ _ hn
    refine ⟨k2, ?_⟩
    rw [k3, k4]
    unfold ab mx
    (repeat' split) <;> omega
  · rename_i g; rw [if_neg g] 
    split at hn
    · rename_i g; rw [if_pos g] 
      obtain ⟨k1, k2, k3, k4⟩ := key _ _ hn
      refine ⟨k2, ?_⟩
      rw [k3, k4]
      unfold ab mx
      (repeat' split) <;> omega
    · rename_i g; rw [if_neg g] 
      split at hn
      · rename_i g; rw [if_pos g] 
        obtain ⟨k1, k2, k3, k4⟩ := key _ _ hn
        refine ⟨k2, ?_⟩
        rw [k3, k4]
        unfold ab mx
        (repeat' split) <;> omega
      · rename_i g; rw [if_neg g] 
        obtain ⟨k1, k2, k3, k4⟩ := key _ _ hn
        refine ⟨k2, ?_⟩
        rw [k3, k4]
        unfold ab mx
        (repeat' split) <;> omega
/-- A step that can be driven. -/
def Drive (X Y : Int) (l : List Int) (s : Int) (c n : Int) : Prop := 0 ≤ n ∧ ∃ d : Int, 0 ≤ d ∧ d < 4 ∧ nbOf X Y c d = n ∧ ab (rd l n - rd l c) ≤ s
inductive Reach (A : Int → Int → Prop) (a : Int) : Int → Prop
  | refl : Reach A a a
  | step {c n : Int} : Reach A a c → A c n → Reach A a n
theorem reach_closed {A : Int → Int → Prop} {a : Int} {S : Int → Prop} (ha : S a) (hs : ∀ c n, S c → A c n → S n) {c : Int} (h : Reach A a c) : S c := by
  induction h with
  | refl => exact ha
  | step _ h2 ih => exact hs _ _ ih h2
namespace RoadAbs
/-! Cheapest ways, abstractly: cells, four directions, costs of steps and of turns. -/
/-- More than any cost. -/
def far : Int := 1099511627776
structure Gd where
  n : Int
  nb : Int → Int → Int
  ok : Int → Int → Bool
  co : Int → Int → Int
  t : Int
structure Gd.Good (G : Gd) : Prop where
  n48 : 1 ≤ G.n ∧ G.n ≤ 48
  rng : ∀ c d, 0 ≤ c → c < G.n → 0 ≤ d → d < 4 → G.ok c d = true → 0 ≤ G.nb c d ∧ G.nb c d < G.n
  cpos : ∀ c d, 0 ≤ c → c < G.n → 0 ≤ d → d < 4 → G.ok c d = true → 1 ≤ G.co c d ∧ G.co c d ≤ 20001
  back : ∀ c d, 0 ≤ c → c < G.n → 0 ≤ d → d < 4 → G.ok c d = true → G.nb (G.nb c d) ((d + 2) % 4) = c ∧ G.ok (G.nb c d) ((d + 2) % 4) = true
  tpos : 0 ≤ G.t ∧ G.t ≤ 100
/-- A direction that doesn't lead back. -/
def al (e d : Int) : Bool := !(decide (e < 4) && decide ((e + 2) % 4 = d))
def tc (G : Gd) (e d : Int) : Int := if e < 4 ∧ e ≠ d then G.t else 0
theorem tc_pos {G : Gd} (hG : G.Good) (e d : Int) : 0 ≤ tc G e d ∧ tc G e d ≤ G.t := by
  have := hG.tpos
  unfold tc; split <;> omega
theorem tc4 (G : Gd) (d : Int) : tc G 4 d = 0 := by unfold tc; rw [if_neg (by omega)]
theorem al4 (d : Int) : al 4 d = true := by simp [al]
def wk (G : Gd) : Int → Int → List Int → Prop
  | _, _, [] => True
  | c, e, d :: ds => (0 ≤ d ∧ d < 4) ∧ G.ok c d = true ∧ al e d = true ∧ wk G (G.nb c d) d ds
def en (G : Gd) : Int → List Int → Int
  | c, [] => c
  | c, d :: ds => en G (G.nb c d) ds
def ld : Int → List Int → Int
  | e, [] => e
  | _, d :: ds => ld d ds
def cs (G : Gd) : Int → Int → List Int → Int
  | _, _, [] => 0
  | c, e, d :: ds => G.co c d + tc G e d + cs G (G.nb c d) d ds
theorem wk_append (G : Gd) : ∀ (a b : List Int) (c e : Int), wk G c e (a ++ b) ↔ wk G c e a ∧ wk G (en G c a) (ld e a) b
  | [], b, c, e => by simp [wk, en, ld]
  | d :: a, b, c, e => by
    simp only [List.cons_append, wk, en, ld, wk_append G a b]
    constructor
    · rintro ⟨h1, h2, h3, h4, h5⟩; exact ⟨⟨h1, h2, h3, h4⟩, h5⟩
    · rintro ⟨⟨h1, h2, h3, h4⟩, h5⟩; exact ⟨h1, h2, h3, h4, h5⟩
theorem en_append (G : Gd) : ∀ (a b : List Int) (c : Int), en G c (a ++ b) = en G (en G c a) b
  | [], b, c => rfl
  | d :: a, b, c => by simp only [List.cons_append, en]; exact en_append G a b _
theorem cs_append (G : Gd) : ∀ (a b : List Int) (c e : Int), cs G c e (a ++ b) = cs G c e a + cs G (en G c a) (ld e a) b
  | [], b, c, e => by simp [cs, en, ld]
  | d :: a, b, c, e => by simp only [List.cons_append, cs, en, ld, cs_append G a b]; omega
theorem ld_append : ∀ (a b : List Int) (e : Int), ld e (a ++ b) = ld (ld e a) b
  | [], b, e => rfl
  | d :: a, b, e => by simp only [List.cons_append, ld]; exact ld_append a b d
theorem en_rng {G : Gd} (hG : G.Good) : ∀ (ds : List Int) (c e : Int), 0 ≤ c → c < G.n → wk G c e ds → 0 ≤ en G c ds ∧ en G c ds < G.n
  | [], c, e, h0, h1, _ => ⟨h0, h1⟩
  | d :: ds, c, e, h0, h1, h => by
    have := hG.rng c d h0 h1 h.1.1 h.1.2 h.2.1
    exact en_rng hG ds _ d this.1 this.2 h.2.2.2
theorem cs_len {G : Gd} (hG : G.Good) : ∀ (ds : List Int) (c e : Int), 0 ≤ c → c < G.n → wk G c e ds → (ds.length : Int) ≤ cs G c e ds ∧ cs G c e ds ≤ 20101 * ds.length
  | [], c, e, h0, h1, _ => by simp [cs]
  | d :: ds, c, e, h0, h1, h => by
    have g := hG.rng c d h0 h1 h.1.1 h.1.2 h.2.1
    have g2 := hG.cpos c d h0 h1 h.1.1 h.1.2 h.2.1
    have g3 := cs_len hG ds _ d g.1 g.2 h.2.2.2
    have g4 := tc_pos hG e d
    have := hG.tpos
    simp only [cs, List.length_cons]
    omega
/-- From nowhere costs no more. -/
theorem wk_free (G : Gd) (hG : G.Good) : ∀ (ds : List Int) (c e : Int), wk G c e ds → wk G c 4 ds ∧ cs G c 4 ds ≤ cs G c e ds
  | [], c, e, h => ⟨trivial, by simp [cs]⟩
  | d :: ds, c, e, h => by
    refine ⟨⟨h.1, h.2.1, al4 d, h.2.2.2⟩, ?_⟩
    simp only [cs, tc4]
    have := (tc_pos hG e d).1
    omega
/-- A walk turns, or goes straight on. -/
theorem turn_or {G : Gd} (hG : G.Good) : ∀ (ds : List Int) (c e : Int), 0 ≤ c → c < G.n → wk G c e ds → G.t + ds.length ≤ cs G c e ds ∨ ∃ d, ds = List.replicate ds.length d
  | [], c, e, _, _, _ => .inr ⟨0, rfl⟩
  | d :: ds, c, e, h0, h1, h => by
    have g := hG.rng c d h0 h1 h.1.1 h.1.2 h.2.1
    have g2 := hG.cpos c d h0 h1 h.1.1 h.1.2 h.2.1
    have g4 := tc_pos hG e d
    rcases turn_or hG ds _ d g.1 g.2 h.2.2.2 with g3 | ⟨f, g3⟩
    · left
      simp only [cs, List.length_cons]
      omega
    · by_cases hd : ∃ f', ds.head? = some f' ∧ f' ≠ d
      · obtain ⟨f', hf, hne⟩ := hd
        cases ds with
        | nil => cases hf
        | cons x ds =>
          obtain rfl : x = f' := Option.some.inj hf
          left
          have k := h.2.2.2
          have m := hG.rng _ x g.1 g.2 k.1.1 k.1.2 k.2.1
          have m2 := hG.cpos _ x g.1 g.2 k.1.1 k.1.2 k.2.1
          have m3 := cs_len hG ds _ x m.1 m.2 k.2.2.2
          have m4 : tc G d x = G.t := by unfold tc; rw [if_pos ⟨h.1.2, fun q => hne q.symm⟩]
          simp only [cs, List.length_cons, m4]
          omega
      · right
        refine ⟨d, ?_⟩
        cases ds with
        | nil => rfl
        | cons x ds =>
          obtain rfl : x = d := Decidable.byContradiction fun q => hd ⟨x, rfl, q⟩
          rw [List.length_cons, List.replicate_succ] at g3
          obtain ⟨rfl, g5⟩ := List.cons.inj g3
          simp only [List.length_cons, List.replicate_succ]
          rw [← g5]
theorem ld_rng : ∀ (ds : List Int) (e : Int) (G : Gd) (c : Int), 0 ≤ e → e ≤ 4 → wk G c e ds → 0 ≤ ld e ds ∧ ld e ds ≤ 4
  | [], e, _, _, h0, h1, _ => ⟨h0, h1⟩
  | d :: ds, e, G, c, h0, h1, h => ld_rng ds d G _ h.1.1 (by have := h.1.2; omega) h.2.2.2
/-- No straight walk comes back. -/
def NoLoop (G : Gd) : Prop := ∀ (m : Nat) (c d e : Int), 0 ≤ c → c < G.n → wk G c e (List.replicate (m + 1) d) → en G c (List.replicate (m + 1) d) ≠ c
/-- A cheapest walk comes to no cell twice. -/
theorem no_twice {G : Gd} (hG : G.Good) (hL : NoLoop G) {c0 : Int} (h0 : 0 ≤ c0) (h1 : c0 < G.n) {p : List Int} (hp : wk G c0 4 p) (hmin : ∀ q, wk G c0 4 q → en G c0 q = en G c0 p → 1000 * cs G c0 4 p + p.length ≤ 1000 * cs G c0 4 q + q.length) :
    ∀ (m : Nat) (a b c : List Int), a.length ≤ m → p = a ++ (b ++ c) → b ≠ [] → en G c0 a ≠ en G c0 (a ++ b) := by
  intro m
  induction m with
  | zero =>
    intro a b c ha hpe hb he
    obtain rfl : a = [] := List.length_eq_zero_iff.1 (by omega)
    simp only [List.nil_append, en] at hpe he
    subst hpe
    obtain ⟨w1, w2⟩ := (wk_append G b c c0 4).1 hp
    rw [← he] at w2
    obtain ⟨w3, w4⟩ := wk_free G hG c c0 _ w2
    have := hmin c w3 (by rw [en_append, ← he])
    rw [cs_append, List.length_append, ← he] at this
    have := (cs_len hG b c0 4 h0 h1 w1).1
    have : 0 < b.length := List.length_pos_iff.2 hb
    omega
  | succ m ih =>
    intro a b c ha hpe hb he
    by_cases hn : a = []
    · exact ih a b c (by rw [hn]; simp) hpe hb he
    obtain ⟨a', g, rfl⟩ : ∃ a' g, a = a' ++ [g] := ⟨a.dropLast, a.getLast hn, (List.dropLast_concat_getLast hn).symm⟩
    have hp' := hp
    rw [hpe] at hp'
    obtain ⟨w1, w2⟩ := (wk_append G _ _ c0 4).1 hp'
    obtain ⟨w3, w4⟩ := (wk_append G _ _ _ _).1 w2
    have hl : ld 4 (a' ++ [g]) = g := by rw [ld_append]; rfl
    rw [hl] at w2 w3 w4
    obtain ⟨y0, y1⟩ := (wk_append G a' [g] c0 4).1 w1
    have hy := en_rng hG a' c0 4 h0 h1 y0
    obtain ⟨⟨gd0, gd1⟩, gok, gal, _⟩ := y1
    have hx : en G c0 (a' ++ [g]) = G.nb (en G c0 a') g := by rw [en_append]; rfl
    have hxr := en_rng hG _ c0 4 h0 h1 w1
    have hbl : 0 < b.length := List.length_pos_iff.2 hb
    have loop : G.t + b.length ≤ cs G (en G c0 (a' ++ [g])) g b := by
      rcases turn_or hG b _ g hxr.1 hxr.2 w3 with q | ⟨d, q⟩
      · exact q
      · exfalso
        obtain ⟨k, hk⟩ : ∃ k, b.length = k + 1 := ⟨b.length - 1, by omega⟩
        rw [hk] at q
        rw [q] at w3 he
        exact hL k _ d g hxr.1 hxr.2 w3 (by rw [← en_append]; exact he.symm)
    have he' : en G (en G c0 (a' ++ [g])) b = en G c0 (a' ++ [g]) := by rw [← en_append]; exact he.symm
    cases c with
    | nil =>
      have := hmin (a' ++ [g]) w1 (by rw [hpe, List.append_nil, en_append G (a' ++ [g]) b, he'])
      rw [hpe, List.append_nil, cs_append, hl, List.length_append] at this
      have := hG.tpos
      omega
    | cons h c' =>
      rw [he'] at w4
      obtain ⟨⟨hd0, hd1⟩, hok, hal, hrest⟩ := w4
      by_cases hgh : al g h = true
      · have w5 : wk G c0 4 ((a' ++ [g]) ++ (h :: c')) := (wk_append G _ _ c0 4).2 ⟨w1, by rw [hl]; exact ⟨⟨hd0, hd1⟩, hok, hgh, hrest⟩⟩
        have := hmin _ w5 (by rw [hpe, en_append G (a' ++ [g]) (h :: c'), en_append G (a' ++ [g]) (b ++ h :: c'), en_append G b, he'])
        rw [hpe, cs_append G (a' ++ [g]) (b ++ h :: c'), cs_append G (a' ++ [g]) (h :: c'), hl, cs_append G b, he'] at this
        simp only [cs, List.length_append, List.length_cons] at this
        have := tc_pos hG g h
        have := tc_pos hG (ld g b) h
        omega
      · have hh : (g + 2) % 4 = h := by
          simp only [al, Bool.not_eq_true', Bool.not_eq_false, Bool.and_eq_true, decide_eq_true_eq] at hgh
          exact hgh.2
        have hb2 := hG.back _ g hy.1 hy.2 gd0 gd1 gok
        refine ih a' (g :: (b ++ [h])) c' (by rw [List.length_append] at ha; simp at ha; omega) (by rw [hpe]; simp) (by simp) ?_
        have : a' ++ (g :: (b ++ [h])) = (a' ++ [g]) ++ (b ++ [h]) := by simp
        rw [this, en_append G (a' ++ [g]), en_append G b, he', hx]
        simp only [en]
        rw [← hh]
        exact hb2.1.symm
theorem nodup_len : ∀ (l p : List Int), l.Nodup → (∀ x ∈ l, x ∈ p) → l.length ≤ p.length := by
  intro l
  induction l with
  | nil => intro p _ _; simp
  | cons x l ih =>
    intro p h1 h2
    rw [List.nodup_cons] at h1
    have hx := h2 x (List.mem_cons_self)
    have h3 := ih (p.erase x) h1.2 (fun y hy => (List.mem_erase_of_ne (fun e : y = x => h1.1 (by rw [← e]; exact hy))).2 (h2 y (List.mem_cons_of_mem _ hy)))
    rw [List.length_erase_of_mem hx] at h3
    have := List.length_pos_of_mem hx
    rw [List.length_cons]
    omega
theorem short {G : Gd} (hG : G.Good) (hL : NoLoop G) {c0 : Int} (h0 : 0 ≤ c0) (h1 : c0 < G.n) {p : List Int} (hp : wk G c0 4 p) (hmin : ∀ q, wk G c0 4 q → en G c0 q = en G c0 p → 1000 * cs G c0 4 p + p.length ≤ 1000 * cs G c0 4 q + q.length) : p.length ≤ 47 := by
  have hn := hG.n48
  have key := nodup_len ((List.range (p.length + 1)).map fun i => en G c0 (p.take i)) ((List.range G.n.toNat).map fun (j : Nat) => (j : Int)) ?_ ?_
  · simp only [List.length_map, List.length_range] at key
    omega
  · rw [List.Nodup, List.pairwise_map]
    refine List.Pairwise.imp_of_mem ?_ (List.pairwise_lt_range (n := p.length + 1))
    intro i j hi hj hij
    rw [List.mem_range] at hi hj
    have e : p.take j = p.take i ++ (p.drop i).take (j - i) := by
      rw [← List.take_append_drop i (p.take j), List.take_take, List.drop_take, Nat.min_eq_left (by omega)]
    have e2 : p = p.take i ++ ((p.drop i).take (j - i) ++ p.drop j) := by
      rw [← List.append_assoc, ← e, List.take_append_drop]
    have := no_twice hG hL h0 h1 hp hmin _ (p.take i) ((p.drop i).take (j - i)) (p.drop j) (Nat.le_refl _) e2 (by
      intro q
      have := congrArg List.length q
      rw [List.length_take, List.length_drop] at this
      simp at this
      omega)
    rw [e]
    exact this
  · intro x hx
    obtain ⟨i, _, rfl⟩ := List.mem_map.1 hx
    have hp2 := hp
    rw [← List.take_append_drop i p] at hp2
    have := en_rng hG _ c0 4 h0 h1 ((wk_append G _ _ _ _).1 hp2).1
    exact List.mem_map.2 ⟨(en G c0 (p.take i)).toNat, List.mem_range.2 (by omega), by omega⟩
/-! The table. -/
def ov (G : Gd) (F : Int → Int → Int) (c e d : Int) : Int :=
  if (G.ok c d && al e d) = true then (if 1000 * (G.co c d + tc G e d) + 1 + F (G.nb c d) d < far then 1000 * (G.co c d + tc G e d) + 1 + F (G.nb c d) d else far) else far
structure Tab (G : Gd) (b : Int) (F : Int → Int → Int) : Prop where
  lo : ∀ c e, 0 ≤ c → c < G.n → 0 ≤ e → e ≤ 4 → 0 ≤ F c e ∧ F c e ≤ far
  at0 : ∀ e, 0 ≤ e → e ≤ 4 → F b e = 0
  le : ∀ c e d, 0 ≤ c → c < G.n → 0 ≤ e → e ≤ 4 → 0 ≤ d → d < 4 → c ≠ b → F c e ≤ ov G F c e d
  ex : ∀ c e, 0 ≤ c → c < G.n → 0 ≤ e → e ≤ 4 → c ≠ b → F c e < far → ∃ d, 0 ≤ d ∧ d < 4 ∧ F c e = ov G F c e d
theorem ov_le {G : Gd} {F : Int → Int → Int} {c e d : Int} (h1 : G.ok c d = true) (h2 : al e d = true) : ov G F c e d ≤ 1000 * (G.co c d + tc G e d) + 1 + F (G.nb c d) d := by
  unfold ov
  rw [h1, h2, if_pos (by rfl)]
  split <;> omega
theorem ov_lt {G : Gd} {F : Int → Int → Int} {c e d : Int} (h : ov G F c e d < far) : G.ok c d = true ∧ al e d = true ∧ ov G F c e d = 1000 * (G.co c d + tc G e d) + 1 + F (G.nb c d) d := by
  unfold ov at h ⊢
  by_cases g : (G.ok c d && al e d) = true
  · rw [if_pos g] at h ⊢
    rw [Bool.and_eq_true] at g
    refine ⟨g.1, g.2, ?_⟩
    split
    · rfl
    · rename_i q; rw [if_neg q] at h; omega
  · rw [if_neg g] at h; omega
theorem tab_le {G : Gd} (hG : G.Good) {b : Int} {F : Int → Int → Int} (T : Tab G b F) : ∀ (ds : List Int) (c e : Int), 0 ≤ c → c < G.n → 0 ≤ e → e ≤ 4 → wk G c e ds → en G c ds = b → F c e ≤ 1000 * cs G c e ds + ds.length
  | [], c, e, h0, h1, e0, e1, _, hb => by
    have := T.at0 e e0 e1
    simp only [en] at hb
    rw [hb, this]
    simp [cs]
  | d :: ds, c, e, h0, h1, e0, e1, h, hb => by
    have g := hG.rng c d h0 h1 h.1.1 h.1.2 h.2.1
    have g2 := hG.cpos c d h0 h1 h.1.1 h.1.2 h.2.1
    have g4 := tc_pos hG e d
    have g5 := cs_len hG ds _ d g.1 g.2 h.2.2.2
    by_cases hc : c = b
    · have := T.at0 e e0 e1
      rw [hc, this]
      rw [hc] at g2 g5
      simp only [cs, List.length_cons]
      omega
    · have q := T.le c e d h0 h1 e0 e1 h.1.1 h.1.2 hc
      have q2 := ov_le (F := F) h.2.1 h.2.2.1
      have q3 := tab_le hG T ds _ d g.1 g.2 h.1.1 (by have := h.1.2; omega) h.2.2.2 hb
      simp only [cs, List.length_cons]
      omega
theorem tab_ex {G : Gd} (hG : G.Good) {b : Int} {F : Int → Int → Int} (T : Tab G b F) : ∀ (m : Nat) (c e : Int), 0 ≤ c → c < G.n → 0 ≤ e → e ≤ 4 → F c e ≤ m → F c e < far → ∃ ds, wk G c e ds ∧ en G c ds = b ∧ F c e = 1000 * cs G c e ds + ds.length := by
  intro m
  induction m with
  | zero =>
    intro c e h0 h1 e0 e1 hm hf
    by_cases hc : c = b
    · exact ⟨[], trivial, hc, by rw [hc, T.at0 e e0 e1]; simp [cs]⟩
    · obtain ⟨d, d0, d1, hd⟩ := T.ex c e h0 h1 e0 e1 hc hf
      obtain ⟨o1, o2, o3⟩ := ov_lt (hd ▸ hf)
      have g := hG.rng c d h0 h1 d0 d1 o1
      have g2 := hG.cpos c d h0 h1 d0 d1 o1
      have g4 := tc_pos hG e d
      have := T.lo _ d g.1 g.2 d0 (by omega)
      omega
  | succ m ih =>
    intro c e h0 h1 e0 e1 hm hf
    by_cases hc : c = b
    · exact ⟨[], trivial, hc, by rw [hc, T.at0 e e0 e1]; simp [cs]⟩
    · obtain ⟨d, d0, d1, hd⟩ := T.ex c e h0 h1 e0 e1 hc hf
      obtain ⟨o1, o2, o3⟩ := ov_lt (hd ▸ hf)
      have g := hG.rng c d h0 h1 d0 d1 o1
      have g2 := hG.cpos c d h0 h1 d0 d1 o1
      have g4 := tc_pos hG e d
      obtain ⟨ds, k1, k2, k3⟩ := ih _ d g.1 g.2 d0 (by omega) (by omega) (by omega)
      refine ⟨d :: ds, ⟨⟨d0, d1⟩, o1, o2, k1⟩, k2, ?_⟩
      simp only [cs, List.length_cons]
      omega
def sts (G : Gd) : Int → Int → List Int → List Int
  | c, e, [] => [5 * c + e]
  | c, e, d :: ds => (5 * c + e) :: sts G (G.nb c d) d ds
theorem sts_len (G : Gd) : ∀ (ds : List Int) (c e : Int), (sts G c e ds).length = ds.length + 1
  | [], _, _ => rfl
  | d :: ds, c, e => by simp only [sts, List.length_cons, sts_len G ds]
theorem tab_ex2 {G : Gd} (hG : G.Good) {b : Int} {F : Int → Int → Int} (T : Tab G b F) : ∀ (m : Nat) (c e : Int), 0 ≤ c → c < G.n → 0 ≤ e → e ≤ 4 → F c e ≤ m → F c e < far → ∃ ds, wk G c e ds ∧ F c e = 1000 * cs G c e ds + ds.length ∧ (∀ x ∈ sts G c e ds, 0 ≤ x ∧ x < 5 * G.n ∧ F (x / 5) (x % 5) ≤ F c e) ∧ (sts G c e ds).Nodup := by
  have idx : ∀ c e : Int, 0 ≤ e → e ≤ 4 → (5 * c + e) / 5 = c ∧ (5 * c + e) % 5 = e := fun c e h0 h1 => by omega
  intro m
  induction m with
  | zero =>
    intro c e h0 h1 e0 e1 hm hf
    by_cases hc : c = b
    · refine ⟨[], trivial, by rw [hc, T.at0 e e0 e1]; simp [cs], fun x hx => ?_, by simp [sts]⟩
      simp only [sts, List.mem_singleton] at hx
      subst hx
      rw [(idx c e e0 e1).1, (idx c e e0 e1).2]
      omega
    · obtain ⟨d, d0, d1, hd⟩ := T.ex c e h0 h1 e0 e1 hc hf
      obtain ⟨o1, o2, o3⟩ := ov_lt (hd ▸ hf)
      have g := hG.rng c d h0 h1 d0 d1 o1
      have g2 := hG.cpos c d h0 h1 d0 d1 o1
      have g4 := tc_pos hG e d
      have := T.lo _ d g.1 g.2 d0 (by omega)
      omega
  | succ m ih =>
    intro c e h0 h1 e0 e1 hm hf
    by_cases hc : c = b
    · refine ⟨[], trivial, by rw [hc, T.at0 e e0 e1]; simp [cs], fun x hx => ?_, by simp [sts]⟩
      simp only [sts, List.mem_singleton] at hx
      subst hx
      rw [(idx c e e0 e1).1, (idx c e e0 e1).2]
      omega
    · obtain ⟨d, d0, d1, hd⟩ := T.ex c e h0 h1 e0 e1 hc hf
      obtain ⟨o1, o2, o3⟩ := ov_lt (hd ▸ hf)
      have g := hG.rng c d h0 h1 d0 d1 o1
      have g2 := hG.cpos c d h0 h1 d0 d1 o1
      have g4 := tc_pos hG e d
      obtain ⟨ds, k1, k3, k4, k5⟩ := ih _ d g.1 g.2 d0 (by omega) (by omega) (by omega)
      refine ⟨d :: ds, ⟨⟨d0, d1⟩, o1, o2, k1⟩, ?_, fun x hx => ?_, ?_⟩
      · simp only [cs, List.length_cons]
        omega
      · rcases List.mem_cons.1 hx with rfl | hx
        · rw [(idx c e e0 e1).1, (idx c e e0 e1).2]; omega
        · have := k4 x hx; omega
      · simp only [sts]
        refine List.nodup_cons.2 ⟨fun hx => ?_, k5⟩
        have := k4 _ hx
        rw [(idx c e e0 e1).1, (idx c e e0 e1).2] at this
        omega
/-- What the table tells is small, or there is no way. -/
theorem tab_small {G : Gd} (hG : G.Good) {b : Int} {F : Int → Int → Int} (T : Tab G b F) {c e : Int} (h0 : 0 ≤ c) (h1 : c < G.n) (e0 : 0 ≤ e) (e1 : e ≤ 4) (hf : F c e < far) : F c e ≤ 10000000000 := by
  have hn := hG.n48
  have hlo := T.lo c e h0 h1 e0 e1
  obtain ⟨ds, k1, k2, k3, k4⟩ := tab_ex2 hG T (F c e).toNat c e h0 h1 e0 e1 (by omega) hf
  have hl := nodup_len (sts G c e ds) ((List.range (5 * G.n).toNat).map fun (j : Nat) => (j : Int)) k4 (fun x hx => by
    have := k3 x hx
    exact List.mem_map.2 ⟨x.toNat, List.mem_range.2 (by omega), by omega⟩)
  rw [sts_len, List.length_map, List.length_range] at hl
  have := cs_len hG ds c e h0 h1 k1
  omega
/-- A step back from where the table tells a cost. -/
theorem tab_back {G : Gd} (hG : G.Good) {b : Int} {F : Int → Int → Int} (T : Tab G b F) {c d : Int} (h0 : 0 ≤ c) (h1 : c < G.n) (d0 : 0 ≤ d) (d1 : d < 4) (hok : G.ok c d = true) (hF : F (G.nb c d) 4 < far) : F c 4 < far := by
  have hfar := fun c e h0 h1 e0 e1 hf => tab_small hG T (c := c) (e := e) h0 h1 e0 e1 hf
  have ht := hG.tpos
  have step : ∀ c e d, 0 ≤ c → c < G.n → 0 ≤ e → e ≤ 4 → 0 ≤ d → d < 4 → G.ok c d = true → al e d = true → F (G.nb c d) d < far → F c e < far := by
    intro c e d h0 h1 e0 e1 d0 d1 hok hal hF
    have g := hG.rng c d h0 h1 d0 d1 hok
    have g2 := hG.cpos c d h0 h1 d0 d1 hok
    have g4 := tc_pos hG e d
    have g5 := hfar _ d g.1 g.2 d0 (by omega) hF
    by_cases hc : c = b
    · rw [hc, T.at0 e e0 e1]; decide
    · have q := T.le c e d h0 h1 e0 e1 d0 d1 hc
      have q2 := ov_le (F := F) hok hal
      unfold far
      omega
  have g := hG.rng c d h0 h1 d0 d1 hok
  by_cases hd : F (G.nb c d) d < far
  · exact step c 4 d h0 h1 (by omega) (by omega) d0 d1 hok (al4 d) hd
  · have hne : G.nb c d ≠ b := fun q => hd (by rw [q, T.at0 d d0 (by omega)]; decide)
    obtain ⟨f, f0, f1, hf⟩ := T.ex _ 4 g.1 g.2 (by omega) (by omega) hne hF
    obtain ⟨o1, o2, o3⟩ := ov_lt (hf ▸ hF)
    have q2 := hG.cpos _ f g.1 g.2 f0 f1 o1
    have ht4 := tc4 G f
    by_cases hal : al d f = true
    · exact absurd (step _ d f g.1 g.2 d0 (by omega) f0 f1 o1 hal (by omega)) hd
    · have hh : (d + 2) % 4 = f := by
        simp only [al] at hal
        simp at hal
        exact hal.2
      have hb2 := (hG.back c d h0 h1 d0 d1 hok).1
      rw [hh] at hb2
      have hFf : F c f < far := by rw [← hb2]; omega
      by_cases hc : c = b
      · rw [hc, T.at0 4 (by omega) (by omega)]; decide
      · obtain ⟨k, k0, k1, hk⟩ := T.ex c f h0 h1 f0 (by omega) hc hFf
        obtain ⟨p1, p2, p3⟩ := ov_lt (hk ▸ hFf)
        have q5 := hG.cpos c k h0 h1 k0 k1 p1
        have q6 := tc_pos hG f k
        exact step c 4 k h0 h1 (by omega) (by omega) k0 k1 p1 (al4 k) (by omega)
/-! Costs by the number of steps. -/
def mn' (a b : Int) : Int := if b < a then b else a
theorem mn'_spec (a b : Int) : mn' a b ≤ a ∧ mn' a b ≤ b ∧ (mn' a b = a ∨ mn' a b = b) := by unfold mn'; split <;> omega
def mv (G : Gd) (C : Int → Int → Int) (c e d : Int) : Int := if (G.ok c d && al e d) = true then mn' far (G.co c d + tc G e d + C (G.nb c d) d) else far
def nxt (G : Gd) (C : Int → Int → Int) (c e : Int) : Int := mn' (mn' (mn' (mn' far (mv G C c e 2)) (mv G C c e 3)) (mv G C c e 1)) (mv G C c e 0)
def Cx (G : Gd) (b : Int) : Nat → Int → Int → Int
  | 0, c, _ => if c = b then 0 else far
  | k + 1, c, e => nxt G (Cx G b k) c e
theorem nxt_spec (G : Gd) (C : Int → Int → Int) (c e : Int) : (∀ d, 0 ≤ d → d < 4 → nxt G C c e ≤ mv G C c e d) ∧ nxt G C c e ≤ far ∧ (nxt G C c e < far → ∃ d, 0 ≤ d ∧ d < 4 ∧ nxt G C c e = mv G C c e d) := by
  have p1 := mn'_spec far (mv G C c e 2)
  have p2 := mn'_spec (mn' far (mv G C c e 2)) (mv G C c e 3)
  have p3 := mn'_spec (mn' (mn' far (mv G C c e 2)) (mv G C c e 3)) (mv G C c e 1)
  have p4 := mn'_spec (mn' (mn' (mn' far (mv G C c e 2)) (mv G C c e 3)) (mv G C c e 1)) (mv G C c e 0)
  unfold nxt
  refine ⟨fun d d0 d1 => ?_, by omega, fun h => ?_⟩
  · have : d = 0 ∨ d = 1 ∨ d = 2 ∨ d = 3 := by omega
    rcases this with rfl | rfl | rfl | rfl <;> omega
  · rcases p4.2.2 with q | q
    · rw [q] at h ⊢
      rcases p3.2.2 with q | q
      · rw [q] at h ⊢
        rcases p2.2.2 with q | q
        · rw [q] at h ⊢
          rcases p1.2.2 with q | q
          · rw [q] at h; omega
          · exact ⟨2, by omega, by omega, q⟩
        · exact ⟨3, by omega, by omega, q⟩
      · exact ⟨1, by omega, by omega, q⟩
    · exact ⟨0, by omega, by omega, q⟩
theorem mv_le {G : Gd} {C : Int → Int → Int} {c e d : Int} (h1 : G.ok c d = true) (h2 : al e d = true) : mv G C c e d ≤ G.co c d + tc G e d + C (G.nb c d) d := by
  unfold mv
  rw [h1, h2, if_pos (by rfl)]
  exact (mn'_spec _ _).2.1
theorem mv_lt {G : Gd} {C : Int → Int → Int} {c e d : Int} (h : mv G C c e d < far) : G.ok c d = true ∧ al e d = true ∧ mv G C c e d = G.co c d + tc G e d + C (G.nb c d) d := by
  unfold mv at h ⊢
  by_cases g : (G.ok c d && al e d) = true
  · rw [if_pos g] at h ⊢
    rw [Bool.and_eq_true] at g
    refine ⟨g.1, g.2, ?_⟩
    have := mn'_spec far (G.co c d + tc G e d + C (G.nb c d) d)
    omega
  · rw [if_neg g] at h; omega
theorem cx_le {G : Gd} (hG : G.Good) {b : Int} : ∀ (ds : List Int) (c e : Int), wk G c e ds → en G c ds = b → Cx G b ds.length c e ≤ cs G c e ds
  | [], c, e, _, hb => by
    simp only [en] at hb
    simp [Cx, cs, hb]
  | d :: ds, c, e, h, hb => by
    have q := cx_le hG ds _ d h.2.2.2 hb
    have q2 := (nxt_spec G (Cx G b ds.length) c e).1 d h.1.1 h.1.2
    have q3 := mv_le (C := Cx G b ds.length) h.2.1 h.2.2.1
    simp only [List.length_cons, Cx, cs]
    omega
theorem cx_far {G : Gd} {b : Int} : ∀ (k : Nat) (c e : Int), Cx G b k c e ≤ far
  | 0, c, e => by simp only [Cx]; split <;> simp [far]
  | k + 1, c, e => (nxt_spec G (Cx G b k) c e).2.1
theorem cx_ex {G : Gd} (hG : G.Good) {b : Int} : ∀ (k : Nat) (c e : Int), 0 ≤ c → c < G.n → Cx G b k c e < far → ∃ ds, wk G c e ds ∧ en G c ds = b ∧ ds.length = k ∧ Cx G b k c e = cs G c e ds
  | 0, c, e, h0, h1, h => by
    simp only [Cx] at h ⊢
    by_cases hc : c = b
    · exact ⟨[], trivial, hc, rfl, by rw [if_pos hc]; simp [cs]⟩
    · rw [if_neg hc] at h; omega
  | k + 1, c, e, h0, h1, h => by
    simp only [Cx] at h ⊢
    obtain ⟨d, d0, d1, hd⟩ := (nxt_spec G (Cx G b k) c e).2.2 h
    rw [hd] at h ⊢
    obtain ⟨o1, o2, o3⟩ := mv_lt h
    have g := hG.rng c d h0 h1 d0 d1 o1
    have g2 := hG.cpos c d h0 h1 d0 d1 o1
    have g4 := tc_pos hG e d
    obtain ⟨ds, k1, k2, k3, k4⟩ := cx_ex (b := b) hG k _ d g.1 g.2 (by omega)
    refine ⟨d :: ds, ⟨⟨d0, d1⟩, o1, o2, k1⟩, k2, by simp [k3], ?_⟩
    simp only [cs]
    omega
/-- The number of steps that is chosen. -/
def Best (G : Gd) (b a : Int) (k : Nat) : Prop := k < 60 ∧ Cx G b k a 4 < far ∧ (∀ j, j < 60 → Cx G b k a 4 ≤ Cx G b j a 4) ∧ ∀ j, j < k → Cx G b k a 4 < Cx G b j a 4
theorem best_eq {G : Gd} (hG : G.Good) (hL : NoLoop G) {b : Int} {F : Int → Int → Int} (T : Tab G b F) {a : Int} (a0 : 0 ≤ a) (a1 : a < G.n) {k : Nat} (B : Best G b a k) : F a 4 = 1000 * Cx G b k a 4 + k ∧ F a 4 < 1000000000000 ∧ F a 4 < far := by
  obtain ⟨b1, b2, b3, b4⟩ := B
  obtain ⟨ds, w1, w2, w3, w4⟩ := cx_ex hG k a 4 a0 a1 b2
  have q1 := tab_le hG T ds a 4 a0 a1 (by omega) (by omega) w1 w2
  have q2 := cs_len hG ds a 4 a0 a1 w1
  have hlt : F a 4 < 1000000000000 := by omega
  have hlt2 : F a 4 < far := by unfold far; omega
  obtain ⟨es, v1, v2, v3⟩ := tab_ex hG T (F a 4).toNat a 4 a0 a1 (by omega) (by omega) (by have := T.lo a 4 a0 a1 (by omega) (by omega); omega) hlt2
  have hs := short hG hL a0 a1 v1 (fun q hq hqe => by
    rw [← v3]
    exact tab_le hG T q a 4 a0 a1 (by omega) (by omega) hq (hqe.trans v2))
  have u1 := cx_le hG es a 4 v1 v2
  have u2 := b3 es.length (by omega)
  refine ⟨?_, hlt, hlt2⟩
  by_cases g : Cx G b k a 4 = Cx G b es.length a 4
  · by_cases g2 : es.length < k
    · have := b4 es.length g2; omega
    · omega
  · omega
theorem best_none {G : Gd} (hG : G.Good) (hL : NoLoop G) {b : Int} {F : Int → Int → Int} (T : Tab G b F) {a : Int} (a0 : 0 ≤ a) (a1 : a < G.n) (h : ∀ k, k < 60 → Cx G b k a 4 = far) : F a 4 = far := by
  have h1 := T.lo a 4 a0 a1 (by omega) (by omega)
  by_cases hlt : F a 4 < far
  · exfalso
    obtain ⟨es, v1, v2, v3⟩ := tab_ex hG T (F a 4).toNat a 4 a0 a1 (by omega) (by omega) (by omega) hlt
    have hs := short hG hL a0 a1 v1 (fun q hq hqe => by
      rw [← v3]
      exact tab_le hG T q a 4 a0 a1 (by omega) (by omega) hq (hqe.trans v2))
    have u1 := cx_le hG es a 4 v1 v2
    have u2 := h es.length (by omega)
    omega
  · omega
/-- Along the way: what the two programs look at is the same. -/
structure At (G : Gd) (b a : Int) (F : Int → Int → Int) (k : Nat) (c e : Int) : Prop where
  k59 : k < 60
  c0 : 0 ≤ c
  c1 : c < G.n
  e0 : 0 ≤ e
  e1 : e ≤ 4
  lt : Cx G b k c e < far
  eq : F c e = 1000 * Cx G b k c e + k
  pre : ∃ p, wk G a 4 p ∧ en G a p = c ∧ ld 4 p = e ∧ 1000 * cs G a 4 p + p.length + F c e = F a 4
theorem at_good {G : Gd} (hG : G.Good) (hL : NoLoop G) {b a : Int} {F : Int → Int → Int} (T : Tab G b F) (a0 : 0 ≤ a) (a1 : a < G.n) (hFa : F a 4 < far) {k : Nat} {c e : Int} (A : At G b a F (k + 1) c e) {d : Int} (d0 : 0 ≤ d) (d1 : d < 4) : c ≠ b ∧ F c e < far ∧ ((ov G F c e d = F c e) ↔ (G.ok c d = true ∧ al e d = true ∧ Cx G b (k + 1) c e = mv G (Cx G b k) c e d)) ∧ (ov G F c e d = F c e → At G b a F k (G.nb c d) d) := by
  obtain ⟨h59, c0, c1, e0, e1, hlt, heq, p, p1, p2, p3, p4⟩ := A
  obtain ⟨ds, w1, w2, w3, w4⟩ := cx_ex hG (k + 1) c e c0 c1 hlt
  have hds := cs_len hG ds c e c0 c1 w1
  have hp := cs_len hG p a 4 a0 a1 p1
  have hcb : c ≠ b := by
    intro q
    have h2 := T.at0 e e0 e1
    rw [q] at heq hds w4
    omega
  have hF : F c e < far := by omega
  have fwd : ov G F c e d = F c e → (G.ok c d = true ∧ al e d = true ∧ Cx G b (k + 1) c e = mv G (Cx G b k) c e d) ∧ At G b a F k (G.nb c d) d := by
    intro ho
    obtain ⟨o1, o2, o3⟩ := ov_lt (ho ▸ hF)
    have g := hG.rng c d c0 c1 d0 d1 o1
    have g2 := hG.cpos c d c0 c1 d0 d1 o1
    have g4 := tc_pos hG e d
    obtain ⟨es, v1, v2, v3⟩ := tab_ex hG T (F (G.nb c d) d).toNat (G.nb c d) d g.1 g.2 d0 (by omega) (by omega) (by omega)
    have hes := cs_len hG es _ d g.1 g.2 v1
    have hw : wk G a 4 (p ++ d :: es) := (wk_append G p _ a 4).2 ⟨p1, by rw [p2, p3]; exact ⟨⟨d0, d1⟩, o1, o2, v1⟩⟩
    have he : en G a (p ++ d :: es) = b := by rw [en_append, p2]; exact v2
    have hc : 1000 * cs G a 4 (p ++ d :: es) + (p ++ d :: es).length = F a 4 := by
      rw [cs_append, p2, p3, List.length_append]
      simp only [cs, List.length_cons]
      omega
    have hs := short hG hL a0 a1 hw (fun q hq hqe => by
      rw [hc]
      exact tab_le hG T q a 4 a0 a1 (by omega) (by omega) hq (hqe.trans he))
    rw [List.length_append, List.length_cons] at hs
    have u1 := cx_le hG es _ d v1 v2
    have hlen : es.length = k := by omega
    rw [hlen] at u1
    have q2 := (nxt_spec G (Cx G b k) c e).1 d d0 d1
    have q3 := mv_le (C := Cx G b k) o1 o2
    have q4 : Cx G b (k + 1) c e = nxt G (Cx G b k) c e := rfl
    have q5 : Cx G b k (G.nb c d) d = cs G (G.nb c d) d es := by omega
    have hm : mv G (Cx G b k) c e d = G.co c d + tc G e d + Cx G b k (G.nb c d) d := by
      have : mv G (Cx G b k) c e d < far := by omega
      exact (mv_lt this).2.2
    refine ⟨⟨o1, o2, by omega⟩, ⟨by omega, g.1, g.2, d0, by omega, by omega, by omega, p ++ [d], ?_, ?_, ?_, ?_⟩⟩
    · exact (wk_append G p _ a 4).2 ⟨p1, by rw [p2, p3]; exact ⟨⟨d0, d1⟩, o1, o2, trivial⟩⟩
    · rw [en_append, p2]; rfl
    · rw [ld_append]; rfl
    · rw [cs_append, p2, p3, List.length_append]
      simp only [cs, List.length_cons, List.length_nil]
      omega
  refine ⟨hcb, hF, ⟨fun h => (fwd h).1, fun ⟨o1, o2, o3⟩ => ?_⟩, fun h => (fwd h).2⟩
  have g := hG.rng c d c0 c1 d0 d1 o1
  have g2 := hG.cpos c d c0 c1 d0 d1 o1
  have g4 := tc_pos hG e d
  rw [o3] at hlt
  have hm := (mv_lt hlt).2.2
  have hlt2 : Cx G b k (G.nb c d) d < far := by omega
  obtain ⟨es, v1, v2, v3, v4⟩ := cx_ex hG k _ d g.1 g.2 hlt2
  have q1 := tab_le hG T es _ d g.1 g.2 d0 (by omega) v1 v2
  have q2 := T.le c e d c0 c1 e0 e1 d0 d1 hcb
  have q3 := ov_le (F := F) o1 o2
  omega
theorem at_start {G : Gd} (hG : G.Good) (hL : NoLoop G) {b a : Int} {F : Int → Int → Int} (T : Tab G b F) (a0 : 0 ≤ a) (a1 : a < G.n) {k : Nat} (B : Best G b a k) : At G b a F k a 4 :=
  ⟨B.1, a0, a1, by omega, by omega, B.2.1, (best_eq hG hL T a0 a1 B).1, [], trivial, rfl, rfl, by simp [cs]⟩
theorem at_end {G : Gd} (hG : G.Good) {b a : Int} {F : Int → Int → Int} {c e : Int} (A : At G b a F 0 c e) : c = b := by
  have := A.lt
  simp only [Cx] at this
  by_cases h : c = b
  · exact h
  · rw [if_neg h] at this; omega
end RoadAbs
open RoadAbs
def gd (X Y : Int) (l : List Int) (s u d t : Int) : Gd := { n := X * Y, nb := nbOf X Y, ok := fun c e => decide (0 ≤ nbOf X Y c e) && decide (ab (rd l (nbOf X Y c e) - rd l c) ≤ s), co := fun c e => costOf l s u d c (nbOf X Y c e), t := t }
theorem gd_ok {X Y : Int} {l : List Int} {s u d t : Int} {c e : Int} : (gd X Y l s u d t).ok c e = true ↔ 0 ≤ nbOf X Y c e ∧ ab (rd l (nbOf X Y c e) - rd l c) ≤ s := by simp [gd]
theorem cost_drive {X Y : Int} {l : List Int} {s u d t : Int} (T : Terr X Y l s u d t) {a b : Int} (ha : 0 ≤ a ∧ a < X * Y) (hb : 0 ≤ b ∧ b < X * Y) (h : ab (rd l b - rd l a) ≤ s) : 1 ≤ costOf l s u d a b ∧ costOf l s u d a b ≤ 20001 := by
  have h1 := terr_at T ha.1 ha.2
  have h2 := terr_at T hb.1 hb.2
  have h3 := (cost_facts T ha hb).2.1
  refine ⟨?_, h3⟩
  unfold costOf
  rw [if_neg (by omega)]
  split
  · have := mul_bounds (h := rd l b - rd l a) (u := u) (by omega) T.u; omega
  · have := mul_bounds (h := -(rd l b - rd l a)) (u := d) (by omega) T.d
    rw [Int.neg_mul] at this
    omega
/-- A cell at a side, told by its place. -/
theorem nbXY_eq2 {X Y : Int} (hX : 1 ≤ X) (x y b : Int) (hb : 0 ≤ b) (hy : b / X < Y) : nbXY X Y x y = b ↔ b % X = x ∧ b / X = y := by
  unfold nbXY
  have m0 := Int.emod_nonneg b (show X ≠ 0 by omega)
  have m1 := Int.emod_lt_of_pos b (show 0 < X by omega)
  have m2 := Int.ediv_nonneg hb (show 0 ≤ X by omega)
  constructor
  · intro h
    split at h
    · rename_i hc
      have := (cell_split hX x y b ⟨hc.1, hc.2.1⟩).1 h
      exact ⟨this.2, this.1⟩
    · omega
  · rintro ⟨rfl, rfl⟩
    rw [if_pos ⟨m0, m1, m2, hy⟩]
    exact (cell_split hX _ _ b ⟨m0, m1⟩).2 ⟨rfl, rfl⟩
theorem nbOf_eq2 {X Y a b : Int} (hX : 1 ≤ X) (hb : 0 ≤ b) (hy : b / X < Y) (d : Int) : nbOf X Y a d = b ↔ if d = 0 then b % X = a % X ∧ b / X = a / X + 1 else if d = 1 then b % X = a % X + 1 ∧ b / X = a / X else if d = 2 then b % X = a % X ∧ b / X = a / X - 1 else b % X = a % X - 1 ∧ b / X = a / X := by
  unfold nbOf
  split
  · exact nbXY_eq2 hX _ _ b hb hy
  · split
    · exact nbXY_eq2 hX _ _ b hb hy
    · split
      · exact nbXY_eq2 hX _ _ b hb hy
      · exact nbXY_eq2 hX _ _ b hb hy
theorem nb_place {X Y : Int} (hX : 1 ≤ X ∧ X ≤ 8) (hY : 1 ≤ Y ∧ Y ≤ 6) {c : Int} (h0 : 0 ≤ c) (h1 : c < X * Y) {d : Int} (d0 : 0 ≤ d) (d1 : d < 4) (hn : 0 ≤ nbOf X Y c d) : (d = 0 → nbOf X Y c d % X = c % X ∧ nbOf X Y c d / X = c / X + 1) ∧ (d = 1 → nbOf X Y c d % X = c % X + 1 ∧ nbOf X Y c d / X = c / X) ∧ (d = 2 → nbOf X Y c d % X = c % X ∧ nbOf X Y c d / X = c / X - 1) ∧ (d = 3 → nbOf X Y c d % X = c % X - 1 ∧ nbOf X Y c d / X = c / X) := by
  have hf := nb_facts hX hY h0 h1 d hn
  have hc := cell_coords hX hY hn hf.1
  have h := (nbOf_eq2 (a := c) hX.1 hn hc.2.2.2.1 d).1 rfl
  refine ⟨fun e => ?_, fun e => ?_, fun e => ?_, fun e => ?_⟩ <;> subst e <;> simpa using h
theorem gd_good {X Y : Int} {l : List Int} {s u d t : Int} (T : Terr X Y l s u d t) : (gd X Y l s u d t).Good where
  n48 := xy_bounds T.x T.y
  rng := fun c e c0 c1 e0 e1 h => by
    obtain ⟨h1, h2⟩ := gd_ok.1 h
    exact ⟨h1, (nb_facts T.x T.y c0 c1 e h1).1⟩
  cpos := fun c e c0 c1 e0 e1 h => by
    obtain ⟨h1, h2⟩ := gd_ok.1 h
    exact cost_drive T ⟨c0, c1⟩ ⟨h1, (nb_facts T.x T.y c0 c1 e h1).1⟩ h2
  back := fun c e c0 c1 e0 e1 h => by
    obtain ⟨h1, h2⟩ := gd_ok.1 h
    have hp := nb_place T.x T.y c0 c1 e0 e1 h1
    have hc := cell_coords T.x T.y c0 c1
    have hb : nbOf X Y (nbOf X Y c e) ((e + 2) % 4) = c := by
      have q := (nbOf_eq2 (a := nbOf X Y c e) T.x.1 c0 hc.2.2.2.1 ((e + 2) % 4))
      have : e = 0 ∨ e = 1 ∨ e = 2 ∨ e = 3 := by omega
      rcases this with rfl | rfl | rfl | rfl
      · have := hp.1 rfl; exact q.2 (by simp; omega)
      · have := hp.2.1 rfl; exact q.2 (by simp; omega)
      · have := hp.2.2.1 rfl; exact q.2 (by simp; omega)
      · have := hp.2.2.2 rfl; exact q.2 (by simp; omega)
    refine ⟨hb, gd_ok.2 ?_⟩
    have p1 := ab_spec (rd l (nbOf X Y c e) - rd l c)
    have p2 := ab_spec (rd l c - rd l (nbOf X Y c e))
    show 0 ≤ nbOf X Y (nbOf X Y c e) ((e + 2) % 4) ∧ ab (rd l (nbOf X Y (nbOf X Y c e) ((e + 2) % 4)) - rd l (nbOf X Y c e)) ≤ s
    rw [hb]
    omega
  tpos := T.t
theorem gd_line {X Y : Int} {l : List Int} {s u d t : Int} (T : Terr X Y l s u d t) : ∀ (m : Nat) (c f e : Int), 0 ≤ c → c < X * Y → 0 ≤ f → f < 4 → wk (gd X Y l s u d t) c e (List.replicate m f) → (f = 0 → en (gd X Y l s u d t) c (List.replicate m f) / X = c / X + m) ∧ (f = 1 → en (gd X Y l s u d t) c (List.replicate m f) % X = c % X + m) ∧ (f = 2 → en (gd X Y l s u d t) c (List.replicate m f) / X = c / X - m) ∧ (f = 3 → en (gd X Y l s u d t) c (List.replicate m f) % X = c % X - m)
  | 0, c, f, e, c0, c1, f0, f1, _ => by simp [en]
  | m + 1, c, f, e, c0, c1, f0, f1, h => by
    rw [List.replicate_succ] at h ⊢
    obtain ⟨_, h2, _, h4⟩ := h
    obtain ⟨g1, g2⟩ := gd_ok.1 h2
    have hf := nb_facts T.x T.y c0 c1 f g1
    have hp := nb_place T.x T.y c0 c1 f0 f1 g1
    have ih := gd_line T m (nbOf X Y c f) f f g1 hf.1 f0 f1 h4
    simp only [en]
    show (f = 0 → en (gd X Y l s u d t) (nbOf X Y c f) (List.replicate m f) / X = c / X + ((m + 1 : Nat) : Int)) ∧ (f = 1 → en (gd X Y l s u d t) (nbOf X Y c f) (List.replicate m f) % X = c % X + ((m + 1 : Nat) : Int)) ∧ (f = 2 → en (gd X Y l s u d t) (nbOf X Y c f) (List.replicate m f) / X = c / X - ((m + 1 : Nat) : Int)) ∧ (f = 3 → en (gd X Y l s u d t) (nbOf X Y c f) (List.replicate m f) % X = c % X - ((m + 1 : Nat) : Int))
    refine ⟨fun q => ?_, fun q => ?_, fun q => ?_, fun q => ?_⟩
    · have := ih.1 q; have := hp.1 q; omega
    · have := ih.2.1 q; have := hp.2.1 q; omega
    · have := ih.2.2.1 q; have := hp.2.2.1 q; omega
    · have := ih.2.2.2 q; have := hp.2.2.2 q; omega
theorem gd_noloop {X Y : Int} {l : List Int} {s u d t : Int} (T : Terr X Y l s u d t) : NoLoop (gd X Y l s u d t) := by
  intro m c f e c0 c1 h he
  have hf : 0 ≤ f ∧ f < 4 := by rw [List.replicate_succ] at h; exact h.1
  have := gd_line T (m + 1) c f e c0 c1 hf.1 hf.2 h
  rw [he] at this
  have q : f = 0 ∨ f = 1 ∨ f = 2 ∨ f = 3 := by omega
  rcases q with q | q | q | q
  · have := this.1 q; omega
  · have := this.2.1 q; omega
  · have := this.2.2.1 q; omega
  · have := this.2.2.2 q; omega
/-! The reference's table. -/
def Ft (tab : List Int) (c e : Int) : Int := rd tab (5 * c + e)
theorem rd_set (l : List Int) (i : Nat) (v : Int) (j : Int) (hi : i < l.length) (hj : 0 ≤ j) : rd (l.set i v) j = if j = (i : Int) then v else rd l j := by
  simp only [rd, List.getD_eq_getElem?_getD, List.getElem?_set]
  by_cases h : j = (i : Int)
  · rw [if_pos (by omega), if_pos h, if_pos hi]; rfl
  · rw [if_neg (by omega), if_neg h]
def stp (G : Gd) (F : Int → Int → Int) (c e : Int) : Int := mn' (mn' (mn' (mn' far (ov G F c e 0)) (ov G F c e 1)) (ov G F c e 2)) (ov G F c e 3)
theorem stp_spec (G : Gd) (F : Int → Int → Int) (c e : Int) : (∀ d, 0 ≤ d → d < 4 → stp G F c e ≤ ov G F c e d) ∧ stp G F c e ≤ far ∧ (stp G F c e < far → ∃ d, 0 ≤ d ∧ d < 4 ∧ stp G F c e = ov G F c e d) := by
  have p1 := mn'_spec far (ov G F c e 0)
  have p2 := mn'_spec (mn' far (ov G F c e 0)) (ov G F c e 1)
  have p3 := mn'_spec (mn' (mn' far (ov G F c e 0)) (ov G F c e 1)) (ov G F c e 2)
  have p4 := mn'_spec (mn' (mn' (mn' far (ov G F c e 0)) (ov G F c e 1)) (ov G F c e 2)) (ov G F c e 3)
  unfold stp
  refine ⟨fun d d0 d1 => ?_, by omega, fun h => ?_⟩
  · have : d = 0 ∨ d = 1 ∨ d = 2 ∨ d = 3 := by omega
    rcases this with rfl | rfl | rfl | rfl <;> omega
  · rcases p4.2.2 with q | q
    · rw [q] at h ⊢
      rcases p3.2.2 with q | q
      · rw [q] at h ⊢
        rcases p2.2.2 with q | q
        · rw [q] at h ⊢
          rcases p1.2.2 with q | q
          · rw [q] at h; omega
          · exact ⟨0, by omega, by omega, q⟩
        · exact ⟨1, by omega, by omega, q⟩
      · exact ⟨2, by omega, by omega, q⟩
    · exact ⟨3, by omega, by omega, q⟩
theorem ov_nonneg {G : Gd} (hG : G.Good) {F : Int → Int → Int} (hF : ∀ c e, 0 ≤ c → c < G.n → 0 ≤ e → e ≤ 4 → 0 ≤ F c e) {c e d : Int} (c0 : 0 ≤ c) (c1 : c < G.n) (d0 : 0 ≤ d) (d1 : d < 4) : 0 ≤ ov G F c e d := by
  unfold ov
  by_cases h : (G.ok c d && al e d) = true
  · rw [if_pos h]
    rw [Bool.and_eq_true] at h
    have g := hG.rng c d c0 c1 d0 d1 h.1
    have g2 := hG.cpos c d c0 c1 d0 d1 h.1
    have g4 := tc_pos hG e d
    have := hF _ d g.1 g.2 d0 (by omega)
    split
    · omega
    · decide
  · rw [if_neg h]; decide
theorem ov_mono {G : Gd} (hG : G.Good) {F F' : Int → Int → Int} (hF : ∀ c e, 0 ≤ c → c < G.n → 0 ≤ e → e ≤ 4 → F' c e ≤ F c e) {c e d : Int} (c0 : 0 ≤ c) (c1 : c < G.n) (d0 : 0 ≤ d) (d1 : d < 4) : ov G F' c e d ≤ ov G F c e d := by
  unfold ov
  by_cases h : (G.ok c d && al e d) = true
  · rw [if_pos h, if_pos h]
    rw [Bool.and_eq_true] at h
    have g := hG.rng c d c0 c1 d0 d1 h.1
    have := hF _ d g.1 g.2 d0 (by omega)
    split <;> split <;> omega
  · rw [if_neg h, if_neg h]; exact Int.le_refl _
theorem mn'_mono {a b c d : Int} (h1 : a ≤ c) (h2 : b ≤ d) : mn' a b ≤ mn' c d := by unfold mn'; split <;> split <;> omega
theorem stp_mono {G : Gd} (hG : G.Good) {F F' : Int → Int → Int} (hF : ∀ c e, 0 ≤ c → c < G.n → 0 ≤ e → e ≤ 4 → F' c e ≤ F c e) {c e : Int} (c0 : 0 ≤ c) (c1 : c < G.n) : stp G F' c e ≤ stp G F c e := by
  unfold stp
  exact mn'_mono (mn'_mono (mn'_mono (mn'_mono (Int.le_refl _) (ov_mono hG hF c0 c1 (by omega) (by omega))) (ov_mono hG hF c0 c1 (by omega) (by omega))) (ov_mono hG hF c0 c1 (by omega) (by omega))) (ov_mono hG hF c0 c1 (by omega) (by omega))
theorem stp_nonneg {G : Gd} (hG : G.Good) {F : Int → Int → Int} (hF : ∀ c e, 0 ≤ c → c < G.n → 0 ≤ e → e ≤ 4 → 0 ≤ F c e) {c e : Int} (c0 : 0 ≤ c) (c1 : c < G.n) : 0 ≤ stp G F c e := by
  have h := stp_spec G F c e
  by_cases q : stp G F c e < far
  · obtain ⟨d, d0, d1, hd⟩ := h.2.2 q
    rw [hd]
    exact ov_nonneg hG hF c0 c1 d0 d1
  · have : (0 : Int) ≤ far := by decide
    omega
/-- What holds of the table all along. -/
structure TI (G : Gd) (b : Int) (tab : List Int) : Prop where
  len : (tab.length : Int) = 5 * G.n
  lo : ∀ c e, 0 ≤ c → c < G.n → 0 ≤ e → e ≤ 4 → 0 ≤ Ft tab c e ∧ Ft tab c e ≤ far
  at0 : ∀ e, 0 ≤ e → e ≤ 4 → Ft tab b e = 0
  sup : ∀ c e, 0 ≤ c → c < G.n → 0 ≤ e → e ≤ 4 → c ≠ b → stp G (Ft tab) c e ≤ Ft tab c e
theorem TI.setv {G : Gd} (hG : G.Good) {b : Int} {tab : List Int} (W : TI G b tab) {i : Nat} (hi : i < tab.length) (b0 : 0 ≤ b) (b1 : b < G.n) {v : Int} (hv : v = stp G (Ft tab) ((i : Int) / 5) ((i : Int) % 5)) (hlt : v < rd tab (i : Int)) : TI G b (tab.set i v) := by
  have hn := hG.n48
  have hl := W.len
  obtain ⟨ci, hci⟩ : ∃ c, c = (i : Int) / 5 := ⟨_, rfl⟩
  obtain ⟨ei, hei⟩ : ∃ c, c = (i : Int) % 5 := ⟨_, rfl⟩
  rw [← hci, ← hei] at hv
  have hii : 5 * ci + ei = (i : Int) := by omega
  have hF : ∀ c e, 0 ≤ c → c < G.n → 0 ≤ e → e ≤ 4 → Ft (tab.set i v) c e = if c = ci ∧ e = ei then v else Ft tab c e := by
    intro c e c0 c1 e0 e1
    unfold Ft
    rw [rd_set _ _ _ _ hi (by omega)]
    by_cases q : c = ci ∧ e = ei
    · rw [if_pos (by rw [q.1, q.2, hii]), if_pos q]
    · rw [if_neg (by omega), if_neg q]
  have hold : Ft tab ci ei = rd tab (i : Int) := by unfold Ft; rw [hii]
  have hv0 : 0 ≤ v := by rw [hv]; exact stp_nonneg hG (fun c e c0 c1 e0 e1 => (W.lo c e c0 c1 e0 e1).1) (by omega) (by omega)
  have hle : ∀ c e, 0 ≤ c → c < G.n → 0 ≤ e → e ≤ 4 → Ft (tab.set i v) c e ≤ Ft tab c e := by
    intro c e c0 c1 e0 e1
    rw [hF c e c0 c1 e0 e1]
    by_cases q : c = ci ∧ e = ei
    · rw [if_pos q, q.1, q.2, hold]; omega
    · rw [if_neg q]; exact Int.le_refl _
  refine ⟨by rw [List.length_set]; exact hl, fun c e c0 c1 e0 e1 => ?_, fun e e0 e1 => ?_, fun c e c0 c1 e0 e1 hc => ?_⟩
  · have h1 := W.lo c e c0 c1 e0 e1
    have h2 := hle c e c0 c1 e0 e1
    rw [hF c e c0 c1 e0 e1] at h2 ⊢
    by_cases q : c = ci ∧ e = ei
    · rw [if_pos q] at h2 ⊢; omega
    · rw [if_neg q]; exact h1
  · rw [hF b e b0 b1 e0 e1]
    by_cases q : b = ci ∧ e = ei
    · exfalso
      have := W.at0 e e0 e1
      rw [q.1, q.2, hold] at this
      omega
    · rw [if_neg q]; exact W.at0 e e0 e1
  · have h1 := stp_mono hG hle (c := c) (e := e) c0 c1
    rw [hF c e c0 c1 e0 e1]
    by_cases q : c = ci ∧ e = ei
    · rw [if_pos q, q.1, q.2]
      rw [q.1, q.2] at h1
      exact Int.le_trans h1 (Int.le_of_eq hv.symm)
    · rw [if_neg q]
      have := W.sup c e c0 c1 e0 e1 hc
      omega
/-- The table at its end. -/
theorem TI.done {G : Gd} (hG : G.Good) {b : Int} {tab : List Int} (W : TI G b tab) (h : ∀ j : Nat, j < tab.length → rd tab (j : Int) ≤ stp G (Ft tab) ((j : Int) / 5) ((j : Int) % 5)) : Tab G b (Ft tab) := by
  have hl := W.len
  have key : ∀ c e, 0 ≤ c → c < G.n → 0 ≤ e → e ≤ 4 → Ft tab c e ≤ stp G (Ft tab) c e := by
    intro c e c0 c1 e0 e1
    have := h (5 * c + e).toNat (by omega)
    rw [show (((5 * c + e).toNat : Nat) : Int) = 5 * c + e from by omega, show (5 * c + e) / 5 = c from by omega, show (5 * c + e) % 5 = e from by omega] at this
    exact this
  refine ⟨W.lo, W.at0, fun c e d c0 c1 e0 e1 d0 d1 hc => ?_, fun c e c0 c1 e0 e1 hc hlt => ?_⟩
  · have := key c e c0 c1 e0 e1
    have := (stp_spec G (Ft tab) c e).1 d d0 d1
    omega
  · have h1 := key c e c0 c1 e0 e1
    have h2 := W.sup c e c0 c1 e0 e1 hc
    have h3 : Ft tab c e = stp G (Ft tab) c e := by omega
    rw [h3] at hlt ⊢
    exact (stp_spec G (Ft tab) c e).2.2 hlt
def msr (tab : List Int) : Nat := (tab.map Int.toNat).sum
theorem msr_set : ∀ (l : List Int) (i : Nat) (v : Int) (h : i < l.length), msr (l.set i v) + l[i].toNat = msr l + v.toNat
  | x :: l, 0, v, h => by simp only [msr, List.set_cons_zero, List.map_cons, List.sum_cons, List.getElem_cons_zero]; omega
  | x :: l, i + 1, v, h => by
    have := msr_set l i v (by simpa using h)
    simp only [msr, List.set_cons_succ, List.map_cons, List.sum_cons, List.getElem_cons_succ] at this ⊢
    omega
theorem roOver_j0 {X Y : Int} {l : List Int} {s u d t : Int} (T : Terr X Y l s u d t) {b : Int} {tab : List Int} (W : TI (gd X Y l s u d t) b tab) {c e f n : Int} (c0 : 0 ≤ c) (c1 : c < X * Y) (e0 : 0 ≤ e) (e1 : e ≤ 4) (f0 : 0 ≤ f) (f1 : f < 4) (hn : nbOf X Y c f = n) (n0 : 0 ≤ n) (hok : ab (rd l n - rd l c) ≤ s) (k : Nat) : spec_roOver.j0 (k + 1) tab c e f n false X Y l s u d t = some (if 1000 * (costOf l s u d c n + tc (gd X Y l s u d t) e f) + 1 + Ft tab n f < far then 1000 * (costOf l s u d c n + tc (gd X Y l s u d t) e f) + 1 + Ft tab n f else far) := by
  have hb := xy_bounds T.x T.y
  have n1 : n < X * Y := by rw [← hn] at n0 ⊢; exact (nb_facts T.x T.y c0 c1 f n0).1
  have hc := cost_drive T ⟨c0, c1⟩ ⟨n0, n1⟩ hok
  have hl : (tab.length : Int) = 5 * (X * Y) := W.len
  have ht := T.t
  have hw := W.lo n f n0 n1 f0 (by omega)
  have hw2 : Ft tab n f = rd tab (5 * n + f) := rfl
  have hfar : far = 1099511627776 := rfl
  rw [hfar] at hw
  simp only [spec_roOver.j0]
  rw [if_neg (by simp), (cost_facts T ⟨c0, c1⟩ ⟨n0, n1⟩).2.2]
  simp only [Option.bind_some]
  rw [w64 (x := 5 * n) (by omega) (by omega), w64 (x := 5 * n + f) (by omega) (by omega), if_pos (by omega), if_pos (by omega), ← hw2, w64 (x := 1000 * costOf l s u d c n) (by omega) (by omega), w64 (x := 1000 * costOf l s u d c n + 1) (by omega) (by omega), w64 (x := 1000 * costOf l s u d c n + 1 + Ft tab n f) (by omega) (by omega), w64 (x := 1000 * t) (by omega) (by omega), w64 (x := 1000 * costOf l s u d c n + 1 + Ft tab n f + 1000 * t) (by omega) (by omega), l1Least_eq, l1Least_eq]
  simp only [Option.bind_some]
  by_cases g : e < 4 ∧ e ≠ f
  · have htc : tc (gd X Y l s u d t) e f = t := by unfold tc; rw [if_pos g]; rfl
    rw [if_pos g.1, if_neg g.2, htc, hfar, show 1000 * (costOf l s u d c n + t) + 1 + Ft tab n f = 1000 * costOf l s u d c n + 1 + Ft tab n f + 1000 * t from by omega]
  · have htc : tc (gd X Y l s u d t) e f = 0 := by unfold tc; rw [if_neg g]
    rw [htc, hfar, show 1000 * (costOf l s u d c n + 0) + 1 + Ft tab n f = 1000 * costOf l s u d c n + 1 + Ft tab n f from by omega]
    by_cases g1 : e < 4
    · rw [if_pos g1, if_pos (by omega)]
    · rw [if_neg g1]
theorem roOver_ev {X Y : Int} {l : List Int} {s u d t : Int} (T : Terr X Y l s u d t) {b : Int} {tab : List Int} (W : TI (gd X Y l s u d t) b tab) {c e f : Int} (c0 : 0 ≤ c) (c1 : c < X * Y) (e0 : 0 ≤ e) (e1 : e ≤ 4) (f0 : 0 ≤ f) (f1 : f < 4) (k : Nat) (hk : 2 ≤ k) : spec_roOver.f k X Y l s u d t tab c e f = some (ov (gd X Y l s u d t) (Ft tab) c e f) := by
  obtain ⟨k, rfl⟩ : ∃ m, k = m + 1 := ⟨k - 1, by omega⟩
  unfold spec_roOver.f
  rw [roNeighbour_ev T.x T.y l s u d t c0 c1 f (k + 1) (by omega)]
  simp only [Option.bind_some]
  obtain ⟨n, hn⟩ : ∃ n, nbOf X Y c f = n := ⟨_, rfl⟩
  have hov : ov (gd X Y l s u d t) (Ft tab) c e f = if (decide (0 ≤ n) && decide (ab (rd l n - rd l c) ≤ s) && al e f) = true then (if 1000 * (costOf l s u d c n + tc (gd X Y l s u d t) e f) + 1 + Ft tab n f < far then 1000 * (costOf l s u d c n + tc (gd X Y l s u d t) e f) + 1 + Ft tab n f else far) else far := by
    unfold ov gd
    simp only [hn]
  rw [hov, hn]
  have htrue : spec_roOver.j0 (k + 1) tab c e f n true X Y l s u d t = some far := by simp only [spec_roOver.j0, if_true]; rfl
  by_cases g1 : n < 0
  · rw [if_pos g1, htrue, decide_eq_false (show ¬ 0 ≤ n by omega)]; rfl
  · rw [if_neg g1, decide_eq_true (show 0 ≤ n by omega), Bool.true_and]
    have n1 : n < X * Y := by rw [← hn]; exact (nb_facts T.x T.y c0 c1 f (by omega)).1
    have hcf := cost_facts T ⟨c0, c1⟩ ⟨(by omega : 0 ≤ n), n1⟩
    have hmain : spec_roOver.j0 (k + 1) tab c e f n (decide (costOf l s u d c n < 0)) X Y l s u d t = some (if decide (ab (rd l n - rd l c) ≤ s) = true then (if 1000 * (costOf l s u d c n + tc (gd X Y l s u d t) e f) + 1 + Ft tab n f < far then 1000 * (costOf l s u d c n + tc (gd X Y l s u d t) e f) + 1 + Ft tab n f else far) else far) := by
      by_cases g3 : ab (rd l n - rd l c) ≤ s
      · have hc := cost_drive T ⟨c0, c1⟩ ⟨(by omega : 0 ≤ n), n1⟩ g3
        rw [decide_eq_false (show ¬ costOf l s u d c n < 0 by omega), decide_eq_true g3, if_pos rfl]
        exact roOver_j0 T W c0 c1 e0 e1 f0 f1 hn (by omega) g3 k
      · have hc : costOf l s u d c n = -1 := by unfold costOf; rw [if_pos (by omega)]
        rw [hc, decide_eq_true (show (-1 : Int) < 0 by omega), decide_eq_false g3, htrue]; rfl
    rw [w64 (x := e + 2) (by omega) (by omega), Int.tmod_eq_emod_of_nonneg (show 0 ≤ e + 2 by omega), hcf.2.2]
    simp only [Option.bind_some]
    rw [hmain]
    by_cases g2 : e < 4
    · rw [if_pos g2]
      by_cases g3 : (e + 2) % 4 = f
      · have hal : al e f = false := by simp [al, g2, g3]
        rw [if_pos g3, hal, htrue, Bool.and_false]; rfl
      · have hal : al e f = true := by simp [al, g3]
        rw [if_neg g3, hal, Bool.and_true]
    · have hal : al e f = true := by simp [al, g2]
      rw [if_neg g2, hal, Bool.and_true]
theorem roStep_ev {X Y : Int} {l : List Int} {s u d t : Int} (T : Terr X Y l s u d t) {b : Int} {tab : List Int} (W : TI (gd X Y l s u d t) b tab) {c e : Int} (c0 : 0 ≤ c) (c1 : c < X * Y) (e0 : 0 ≤ e) (e1 : e ≤ 4) (k : Nat) (hk : 10 ≤ k) : spec_roStep.f k X Y l s u d t tab c e = some (stp (gd X Y l s u d t) (Ft tab) c e) := by
  have one : ∀ (k : Nat) (best f : Int), 2 ≤ k → 0 ≤ f → f < 4 → spec_roStep.l0 (k + 1) tab c e best f X Y l s u d t = spec_roStep.l0 k tab c e (mn' best (ov (gd X Y l s u d t) (Ft tab) c e f)) (f + 1) X Y l s u d t := by
    intro k best f hk f0 f1
    simp only [spec_roStep.l0]
    rw [if_pos f1, roOver_ev T W c0 c1 e0 e1 f0 f1 k hk, w64 (x := f + 1) (by omega) (by omega)]
    simp only [Option.bind_some]
    unfold mn'
    split <;> rfl
  obtain ⟨k, rfl⟩ : ∃ m, k = m + 5 := ⟨k - 5, by omega⟩
  unfold spec_roStep.f
  rw [one (k + 4) _ 0 (by omega) (by omega) (by omega), one (k + 3) _ (0 + 1) (by omega) (by omega) (by omega), one (k + 2) _ (0 + 1 + 1) (by omega) (by omega) (by omega), one (k + 1) _ (0 + 1 + 1 + 1) (by omega) (by omega) (by omega)]
  simp only [spec_roStep.l0]
  rw [if_neg (by omega)]
  rfl
theorem roTable_run {X Y : Int} {l : List Int} {s u d t : Int} (T : Terr X Y l s u d t) {b : Int} (b0 : 0 ≤ b) (b1 : b < X * Y) : ∀ (M : Nat) (tab : List Int), TI (gd X Y l s u d t) b tab → msr tab ≤ M → ∃ r, (∃ K, ∀ k, K ≤ k → spec_roTable.l1 k tab true X Y l s u d t = some r) ∧ (r.length : Int) = 5 * (X * Y) ∧ Tab (gd X Y l s u d t) b (Ft r) := by
  have hG := gd_good T
  have hb := xy_bounds T.x T.y
  have pass : ∀ (tab : List Int), TI (gd X Y l s u d t) b tab → (∀ tab', TI (gd X Y l s u d t) b tab' → msr tab' < msr tab → ∃ r, (∃ K, ∀ k, K ≤ k → spec_roTable.l1 k tab' true X Y l s u d t = some r) ∧ (r.length : Int) = 5 * (X * Y) ∧ Tab (gd X Y l s u d t) b (Ft r)) → ∀ (m i : Nat) (cur : List Int) (ch : Bool), i + m = tab.length → cur.length = tab.length → TI (gd X Y l s u d t) b cur → (ch = false → cur = tab ∧ ∀ j : Nat, j < i → rd tab (j : Int) ≤ stp (gd X Y l s u d t) (Ft tab) ((j : Int) / 5) ((j : Int) % 5)) → (ch = true → msr cur < msr tab) → ∃ r, (∃ K, ∀ k, K ≤ k → spec_roTable.l2 k cur ch (tab.length : Int) (i : Int) X Y l s u d t = some r) ∧ (r.length : Int) = 5 * (X * Y) ∧ Tab (gd X Y l s u d t) b (Ft r) := by
    intro tab W ih m
    have hl : (tab.length : Int) = 5 * (X * Y) := W.len
    induction m with
    | zero =>
      intro i cur ch hi hlen Wc h1 h2
      cases ch with
      | false =>
        obtain ⟨rfl, h1⟩ := h1 rfl
        refine ⟨cur, ev_suc 1 fun k hk => ?_, hl, Wc.done hG (fun j hj => h1 j (by omega))⟩
        obtain ⟨k, rfl⟩ : ∃ m, k = m + 1 := ⟨k - 1, by omega⟩
        simp only [spec_roTable.l2]
        rw [if_neg (by omega)]
        simp only [spec_roTable.l1]
        rw [if_neg (by simp)]
      | true =>
        obtain ⟨r, ⟨K, hK⟩, h3⟩ := ih cur Wc (h2 rfl)
        refine ⟨r, ev_suc K fun k hk => ?_, h3⟩
        simp only [spec_roTable.l2]
        rw [if_neg (by omega)]
        exact hK k hk
    | succ m im =>
      intro i cur ch hi hlen Wc h1 h2
      have hi2 : i < cur.length := by omega
      have hst : ∀ k, 10 ≤ k → spec_roStep.f k X Y l s u d t cur (wrap64 (Int.tdiv (i : Int) 5)) (Int.tmod (i : Int) 5) = some (stp (gd X Y l s u d t) (Ft cur) ((i : Int) / 5) ((i : Int) % 5)) := by
        intro k hk
        rw [Int.tdiv_eq_ediv_of_nonneg (by omega), Int.tmod_eq_emod_of_nonneg (by omega), w64 (by omega) (by omega)]
        exact roStep_ev T Wc (by omega) (by omega) (by omega) (by omega) k hk
      by_cases g : stp (gd X Y l s u d t) (Ft cur) ((i : Int) / 5) ((i : Int) % 5) < rd cur (i : Int)
      · have Wn := Wc.setv hG hi2 b0 b1 rfl g
        have hm := msr_set cur i (stp (gd X Y l s u d t) (Ft cur) ((i : Int) / 5) ((i : Int) % 5)) hi2
        have hnn := stp_nonneg hG (F := Ft cur) (fun c e c0 c1 e0 e1 => (Wc.lo c e c0 c1 e0 e1).1) (c := (i : Int) / 5) (e := (i : Int) % 5) (by omega) (by show _ < X * Y; omega)
        rw [rd_nat cur i hi2] at g
        have hmm : msr (cur.set i (stp (gd X Y l s u d t) (Ft cur) ((i : Int) / 5) ((i : Int) % 5))) < msr cur := by omega
        have hle : msr cur ≤ msr tab := by
          cases ch with
          | false => rw [(h1 rfl).1]; exact Nat.le_refl _
          | true => exact Nat.le_of_lt (h2 rfl)
        obtain ⟨r, ⟨K, hK⟩, h3⟩ := im (i + 1) _ true (by omega) (by rw [List.length_set]; exact hlen) Wn (fun h => by cases h) (fun _ => by omega)
        refine ⟨r, ev_suc (K + 10) fun k hk => ?_, h3⟩
        simp only [spec_roTable.l2]
        rw [if_pos (by omega), hst k (by omega)]
        simp only [Option.bind_some]
        rw [if_pos (by omega), if_pos (by omega), rd_nat cur i hi2, if_pos g, w64s (by omega), Int.toNat_natCast]
        exact hK k (by omega)
      · obtain ⟨r, ⟨K, hK⟩, h3⟩ := im (i + 1) cur ch (by omega) hlen Wc (fun h => by
          obtain ⟨q1, q2⟩ := h1 h
          refine ⟨q1, fun j hj => ?_⟩
          by_cases e : j = i
          · subst e; rw [← q1]; omega
          · exact q2 j (by omega)) h2
        refine ⟨r, ev_suc (K + 10) fun k hk => ?_, h3⟩
        simp only [spec_roTable.l2]
        rw [if_pos (by omega), hst k (by omega)]
        simp only [Option.bind_some]
        rw [if_pos (by omega), if_pos (by omega), if_neg g, w64s (by omega)]
        exact hK k (by omega)
  intro M
  induction M with
  | zero =>
    intro tab W hM
    obtain ⟨r, ⟨K, hK⟩, h3⟩ := pass tab W (fun tab' _ h => by omega) tab.length 0 tab false (by omega) rfl W (fun _ => ⟨rfl, fun j hj => by omega⟩) (fun h => by cases h)
    refine ⟨r, ev_suc K fun k hk => ?_, h3⟩
    simp only [spec_roTable.l1, if_true]
    exact hK k hk
  | succ M ih =>
    intro tab W hM
    obtain ⟨r, ⟨K, hK⟩, h3⟩ := pass tab W (fun tab' W' h => ih tab' W' (by omega)) tab.length 0 tab false (by omega) rfl W (fun _ => ⟨rfl, fun j hj => by omega⟩) (fun h => by cases h)
    refine ⟨r, ev_suc K fun k hk => ?_, h3⟩
    simp only [spec_roTable.l1, if_true]
    exact hK k hk
def tab0 (n : Nat) (b : Int) : List Int := (List.range n).map fun (i : Nat) => if (i : Int) / 5 = b then 0 else far
theorem tab0_len (n : Nat) (b : Int) : (tab0 n b).length = n := by simp [tab0]
theorem tab0_at (n : Nat) (b : Int) (i : Nat) (h : i < (tab0 n b).length) : (tab0 n b)[i] = if (i : Int) / 5 = b then 0 else far := by simp [tab0]
theorem tab0_TI {G : Gd} (hG : G.Good) {b : Int} (b0 : 0 ≤ b) (b1 : b < G.n) : TI G b (tab0 (5 * G.n).toNat b) := by
  have hn := hG.n48
  have hl : ((tab0 (5 * G.n).toNat b).length : Int) = 5 * G.n := by rw [tab0_len]; omega
  have hF : ∀ c e, 0 ≤ c → c < G.n → 0 ≤ e → e ≤ 4 → Ft (tab0 (5 * G.n).toNat b) c e = if c = b then 0 else far := by
    intro c e c0 c1 e0 e1
    unfold Ft
    have h1 : (5 * c + e).toNat < (tab0 (5 * G.n).toNat b).length := by omega
    have h2 := rd_nat _ _ h1
    rw [show (((5 * c + e).toNat : Nat) : Int) = 5 * c + e from by omega, tab0_at, show (((5 * c + e).toNat : Nat) : Int) = 5 * c + e from by omega, show (5 * c + e) / 5 = c from by omega] at h2
    exact h2
  have hf : far = 1099511627776 := rfl
  refine ⟨hl, fun c e c0 c1 e0 e1 => ?_, fun e e0 e1 => ?_, fun c e c0 c1 e0 e1 hc => ?_⟩
  · rw [hF c e c0 c1 e0 e1]; split <;> omega
  · rw [hF b e b0 b1 e0 e1, if_pos rfl]
  · rw [hF c e c0 c1 e0 e1, if_neg hc]
    exact (stp_spec G _ c e).2.1
theorem roTable_ev {X Y : Int} {l : List Int} {s u d t : Int} (T : Terr X Y l s u d t) {b : Int} (b0 : 0 ≤ b) (b1 : b < X * Y) : ∃ r, (∃ K, ∀ k, K ≤ k → spec_roTable.f k X Y l s u d t b = some r) ∧ (r.length : Int) = 5 * (X * Y) ∧ Tab (gd X Y l s u d t) b (Ft r) := by
  have hb := xy_bounds T.x T.y
  have hW : TI (gd X Y l s u d t) b (tab0 (5 * (X * Y)).toNat b) := tab0_TI (gd_good T) b0 b1
  obtain ⟨r, ⟨K, hK⟩, h3⟩ := roTable_run T b0 b1 _ _ hW (Nat.le_refl _)
  have hlen := tab0_len (5 * (X * Y)).toNat b
  generalize htab : tab0 (5 * (X * Y)).toNat b = tab at hK hlen
  have hat : ∀ (i : Nat) (h : i < tab.length), tab[i] = if (i : Int) / 5 = b then 0 else far := by subst htab; exact fun i h => tab0_at _ _ i h
  have h := ev_loop (F := fun k i => spec_roTable.l0 k b (tab.take i ++ List.replicate (tab.length - i) 0) (tab.length : Int) (i : Int) X Y l s u d t) (n := tab.length) (res := fun _ => r)
    (ev_suc K fun k hk => by
      simp only [spec_roTable.l0]
      rw [if_neg (by omega), fill_last]
      exact hK k hk)
    (fun i hi K2 hK2 => ev_suc K2 fun k hk => by
      have hfl := fill_length tab (0 : Int) i (by omega)
      have hK3 := hK2 k hk
      simp only [spec_roTable.l0]
      rw [if_pos (by omega), if_pos (by omega), if_pos (by rw [hfl]; omega), Int.tdiv_eq_ediv_of_nonneg (by omega), w64 (x := (i : Int) / 5) (by omega) (by omega), w64s (by omega), Int.toNat_natCast]
      simp only [Option.bind_some]
      have hfs := fill_step tab (0 : Int) i hi
      rw [hat i hi] at hfs
      by_cases g : (i : Int) / 5 = b
      · rw [if_pos g] at hfs ⊢
        rw [List.set_set, hfs]
        exact hK3
      · rw [if_neg g] at hfs ⊢
        rw [show (1099511627776 : Int) = far from rfl, hfs]
        exact hK3) 0 (Nat.zero_le _)
  obtain ⟨K2, h⟩ := h
  refine ⟨r, ⟨K2, fun k hk => ?_⟩, h3⟩
  unfold spec_roTable.f
  rw [w64 (x := X * Y) (by omega) (by omega), w64 (x := 5 * (X * Y)) (by omega) (by omega), if_pos (by omega), if_pos (by omega)]
  simp only [Option.bind_some, List.length_replicate]
  have := h k hk
  rw [List.take_zero, List.nil_append, Nat.sub_zero, hlen] at this
  exact this
/-! The program's costs by the number of steps. Its sides go by other numbers: 'sg5' leads to the reference's. -/
def sg5 (e : Int) : Int := if e = 4 then 4 else sg e
theorem sg_rng (e : Int) : 0 ≤ sg e ∧ sg e < 4 := by unfold sg; split; omega; split; omega; split <;> omega
theorem sg5_rng (e : Int) : 0 ≤ sg5 e ∧ sg5 e ≤ 4 := by have := sg_rng e; unfold sg5; split <;> omega
theorem sg_al {e f : Int} (e0 : 0 ≤ e) (e1 : e ≤ 4) (f0 : 0 ≤ f) (f1 : f < 4) : al (sg5 e) (sg f) = true ↔ f ≠ 3 - e := by
  have h1 : e = 0 ∨ e = 1 ∨ e = 2 ∨ e = 3 ∨ e = 4 := by omega
  have h2 : f = 0 ∨ f = 1 ∨ f = 2 ∨ f = 3 := by omega
  rcases h1 with rfl | rfl | rfl | rfl | rfl <;> rcases h2 with rfl | rfl | rfl | rfl <;> decide
theorem sg_tc (G : Gd) {e f : Int} (e0 : 0 ≤ e) (e1 : e ≤ 4) (f0 : 0 ≤ f) (f1 : f < 4) : tc G (sg5 e) (sg f) = if e < 4 ∧ e ≠ f then G.t else 0 := by
  have h1 : e = 0 ∨ e = 1 ∨ e = 2 ∨ e = 3 ∨ e = 4 := by omega
  have h2 : f = 0 ∨ f = 1 ∨ f = 2 ∨ f = 3 := by omega
  unfold tc
  rcases h1 with rfl | rfl | rfl | rfl | rfl <;> rcases h2 with rfl | rfl | rfl | rfl <;> simp [sg5, sg]
theorem rdLL_nat2 (l : List (List Int)) (i : Nat) (h : i < l.length) : rd_L1 l (i : Int) = l[i] := by simp [rd_L1, List.getD_eq_getElem?_getD, h]
theorem mn_eq (a b : Int) : mn a b = mn' a b := rfl
/-- A row of the program's table. -/
structure RowOk (G : Gd) (b : Int) (k : Nat) (row : List Int) : Prop where
  len : (row.length : Int) = 5 * G.n
  val : ∀ c e, 0 ≤ c → c < G.n → 0 ≤ e → e ≤ 4 → rd row (c * 5 + e) = Cx G b k c (sg5 e)
theorem cx_nonneg {G : Gd} (hG : G.Good) {b : Int} (k : Nat) {c e : Int} (c0 : 0 ≤ c) (c1 : c < G.n) : 0 ≤ Cx G b k c e := by
  by_cases h : Cx G b k c e < far
  · obtain ⟨ds, w1, w2, w3, w4⟩ := cx_ex hG k c e c0 c1 h
    have := cs_len hG ds c e c0 c1 w1
    omega
  · have : (0 : Int) ≤ far := by decide
    omega
theorem moveCost_ev {X Y : Int} {l : List Int} {s u d t : Int} (T : Terr X Y l s u d t) {b : Int} {k : Nat} {row : List Int} (R : RowOk (gd X Y l s u d t) b k row) {c e f n : Int} (c0 : 0 ≤ c) (c1 : c < X * Y) (e0 : 0 ≤ e) (e1 : e ≤ 4) (f0 : 0 ≤ f) (f1 : f < 4) (hn : nbOf X Y c (sg f) = n) (n0 : 0 ≤ n) (hne : f ≠ 3 - e) :
    impl_moveCost.f X Y l s u d t row c n e f = some (mv (gd X Y l s u d t) (Cx (gd X Y l s u d t) b k) c (sg5 e) (sg f)) := by
  have hb := xy_bounds T.x T.y
  have ht := T.t
  have n1 : n < X * Y := by rw [← hn] at n0 ⊢; exact (nb_facts T.x T.y c0 c1 (sg f) n0).1
  have hnx : nextTo X c n := by rw [← hn] at n0 ⊢; exact (nb_facts T.x T.y c0 c1 (sg f) n0).2
  have hal := (sg_al e0 e1 f0 f1).2 hne
  have htc := sg_tc (gd X Y l s u d t) e0 e1 f0 f1
  have hl : (row.length : Int) = 5 * (X * Y) := R.len
  have hv := R.val n f n0 n1 f0 (by omega)
  have hsf : sg5 f = sg f := by unfold sg5; rw [if_neg (by omega)]
  rw [hsf] at hv
  have hlo := cx_nonneg (gd_good T) (b := b) k (c := n) (e := sg f) n0 n1
  have hhi := cx_far (G := gd X Y l s u d t) (b := b) k n (sg f)
  have hfar : far = 1099511627776 := rfl
  rw [hfar] at hhi
  have hmv : mv (gd X Y l s u d t) (Cx (gd X Y l s u d t) b k) c (sg5 e) (sg f) = if ab (rd l n - rd l c) ≤ s then mn' far (costOf l s u d c n + (if e < 4 ∧ e ≠ f then t else 0) + Cx (gd X Y l s u d t) b k n (sg f)) else far := by
    unfold mv
    rw [hal, Bool.and_true, htc]
    simp only [gd, hn]
    by_cases g : ab (rd l n - rd l c) ≤ s
    · rw [if_pos g, decide_eq_true g, decide_eq_true n0]; rfl
    · rw [if_neg g, decide_eq_false g, decide_eq_true n0]; rfl
  unfold impl_moveCost.f
  rw [implStepCost_eq T ⟨c0, c1⟩ ⟨n0, n1⟩, if_pos hnx, hmv]
  simp only [Option.bind_some]
  by_cases g : ab (rd l n - rd l c) ≤ s
  · have hc := cost_drive T ⟨c0, c1⟩ ⟨n0, n1⟩ g
    rw [if_pos g, if_neg (show ¬ costOf l s u d c n < 0 by omega), w64 (x := n * 5) (by omega) (by omega), w64 (x := n * 5 + f) (by omega) (by omega)]
    simp only [show 0 ≤ n * 5 + f from by omega, show n * 5 + f < (row.length : Int) from by omega, if_true, hv]
    rw [w64 (x := costOf l s u d c n + t) (by omega) (by omega), w64 (x := costOf l s u d c n + Cx (gd X Y l s u d t) b k n (sg f)) (by omega) (by omega), w64 (x := costOf l s u d c n + t + Cx (gd X Y l s u d t) b k n (sg f)) (by omega) (by omega)]
    by_cases g1 : e < 4
    · rw [if_pos g1]
      by_cases g2 : e = f
      · rw [if_pos g2, if_neg (by omega), Int.add_zero]; rfl
      · rw [if_neg g2, if_pos ⟨g1, g2⟩]; rfl
    · rw [if_neg g1, if_neg (by omega), Int.add_zero]; rfl
  · have hc : costOf l s u d c n = -1 := by unfold costOf; rw [if_pos (by omega)]
    rw [if_neg g, hc, if_pos (by omega)]; rfl
/-- One side of one cell, in the program's words. -/
theorem costs_l5 {X Y : Int} {l : List Int} {s u d t : Int} (T : Terr X Y l s u d t) {b : Int} {rows : List (List Int)} {i : Nat} (hi : i < rows.length) (hi6 : i < 60) (R : RowOk (gd X Y l s u d t) b i rows[i]) {c e f best : Int} (c0 : 0 ≤ c) (c1 : c < X * Y) (e0 : 0 ≤ e) (e1 : e ≤ 4) (f0 : 0 ≤ f) (f1 : f < 4) (hbest : best ≤ far) (k : Nat) (x10 : List Int) (z1 z2 z3 : Int) :
    impl_costsTo.l5 (k + 1) rows ((i + 1 : Nat) : Int) x10 c e best z1 z2 z3 f X Y l s u d t = impl_costsTo.l5 k rows ((i + 1 : Nat) : Int) x10 c e (mn' best (mv (gd X Y l s u d t) (Cx (gd X Y l s u d t) b i) c (sg5 e) (sg f))) z1 z2 z3 (f + 1) X Y l s u d t := by
  have hskip : mv (gd X Y l s u d t) (Cx (gd X Y l s u d t) b i) c (sg5 e) (sg f) = far → mn' best (mv (gd X Y l s u d t) (Cx (gd X Y l s u d t) b i) c (sg5 e) (sg f)) = best := fun h => by rw [h]; unfold mn'; split <;> omega
  obtain ⟨n, hn⟩ : ∃ n, nbOf X Y c (sg f) = n := ⟨_, rfl⟩
  simp only [impl_costsTo.l5]
  rw [if_pos f1, sideOf_eq T.x T.y l s u d t c0 c1 f, hn, w64 (x := f + 1) (by omega) (by omega), w64 (x := 3 - e) (by omega) (by omega), w64 (x := ((i + 1 : Nat) : Int) - 1) (by omega) (by omega)]
  simp only [Option.bind_some]
  by_cases g1 : n ≥ 0
  · rw [if_pos g1]
    by_cases g2 : f = 3 - e
    · rw [if_pos g2, hskip]
      unfold mv
      have : al (sg5 e) (sg f) = false := by
        cases h : al (sg5 e) (sg f) with
        | false => rfl
        | true => exact absurd g2 ((sg_al e0 e1 f0 f1).1 h)
      rw [this, Bool.and_false]; rfl
    · rw [if_neg g2, if_pos (by omega), if_pos (by omega), show ((i + 1 : Nat) : Int) - 1 = (i : Int) from by omega, rdLL_nat2 rows i hi, moveCost_ev T R c0 c1 e0 e1 f0 f1 hn g1 g2]
      rfl
  · rw [if_neg g1, hskip]
    unfold mv
    have : (gd X Y l s u d t).ok c (sg f) = false := by
      cases h : (gd X Y l s u d t).ok c (sg f) with
      | false => rfl
      | true => exact absurd (hn ▸ (gd_ok.1 h).1) g1
    rw [this]; rfl
/-- A row, made of its values. -/
def rowOf (G : Gd) (b : Int) (k : Nat) : List Int := (List.range (5 * G.n).toNat).map fun (i : Nat) => Cx G b k ((i : Int) / 5) (sg5 ((i : Int) % 5))
theorem rowOf_len (G : Gd) (b : Int) (k : Nat) : (rowOf G b k).length = (5 * G.n).toNat := by simp [rowOf]
theorem rowOf_at (G : Gd) (b : Int) (k : Nat) (i : Nat) (h : i < (rowOf G b k).length) : (rowOf G b k)[i] = Cx G b k ((i : Int) / 5) (sg5 ((i : Int) % 5)) := by simp [rowOf]
theorem rowOf_ok {G : Gd} (hG : G.Good) (b : Int) (k : Nat) : RowOk G b k (rowOf G b k) := by
  have hn := hG.n48
  have hl : ((rowOf G b k).length : Int) = 5 * G.n := by rw [rowOf_len]; omega
  refine ⟨hl, fun c e c0 c1 e0 e1 => ?_⟩
  have h1 : (c * 5 + e).toNat < (rowOf G b k).length := by omega
  have h2 := rd_nat _ _ h1
  rw [show (((c * 5 + e).toNat : Nat) : Int) = c * 5 + e from by omega, rowOf_at, show (((c * 5 + e).toNat : Nat) : Int) = c * 5 + e from by omega, show (c * 5 + e) / 5 = c from by omega, show (c * 5 + e) % 5 = e from by omega] at h2
  exact h2
theorem costs_l4 {X Y : Int} {l : List Int} {s u d t : Int} (T : Terr X Y l s u d t) {b : Int} {rows : List (List Int)} {i : Nat} (hi : i < rows.length) (hi6 : i < 60) (R : RowOk (gd X Y l s u d t) b i rows[i]) {c : Nat} (c1 : (c : Int) < X * Y) (z1 z2 : Int) (r : List (List Int)) {row : List Int} (hrow : row = rowOf (gd X Y l s u d t) b (i + 1))
    (H : ∃ K, ∀ k, K ≤ k → impl_costsTo.l3 k rows ((i + 1 : Nat) : Int) (row.take (5 * (c + 1)) ++ List.replicate (row.length - 5 * (c + 1)) 0) z1 z2 ((c + 1 : Nat) : Int) X Y l s u d t = some r) :
    ∃ K, ∀ k, K ≤ k → impl_costsTo.l4 k rows ((i + 1 : Nat) : Int) (row.take (5 * c) ++ List.replicate (row.length - 5 * c) 0) (c : Int) 0 z1 z2 (c : Int) X Y l s u d t = some r := by
  have hb := xy_bounds T.x T.y
  have hrl : (row.length : Int) = 5 * (X * Y) := by rw [hrow]; exact (rowOf_ok (gd_good T) b (i + 1)).len
  have h := ev_loop (F := fun k j => impl_costsTo.l4 k rows ((i + 1 : Nat) : Int) (row.take (5 * c + j) ++ List.replicate (row.length - (5 * c + j)) 0) (c : Int) (j : Int) z1 z2 (c : Int) X Y l s u d t) (n := 5) (res := fun _ => r)
    (by
      obtain ⟨K, H⟩ := H
      exact ev_suc K fun k hk => by
        simp only [impl_costsTo.l4]
        rw [if_neg (by omega), w64s (by omega)]
        exact H k hk)
    (fun j hj K hK => ev_suc (K + 5) fun k hk => by
      obtain ⟨k, rfl⟩ : ∃ m, k = m + 5 := ⟨k - 5, by omega⟩
      have one := fun (f best : Int) (f0 : 0 ≤ f) (f1 : f < 4) (hbest : best ≤ far) (k : Nat) => costs_l5 T hi hi6 R (c := (c : Int)) (e := (j : Int)) (f := f) (best := best) (by omega) c1 (by omega) (by omega) f0 f1 hbest k (row.take (5 * c + j) ++ List.replicate (row.length - (5 * c + j)) 0) z1 z2 (c : Int)
      obtain ⟨C, hC⟩ : ∃ C, C = Cx (gd X Y l s u d t) b i := ⟨_, rfl⟩
      have p1 := mn'_spec far (mv (gd X Y l s u d t) C (c : Int) (sg5 (j : Int)) 2)
      have p2 := mn'_spec (mn' far (mv (gd X Y l s u d t) C (c : Int) (sg5 (j : Int)) 2)) (mv (gd X Y l s u d t) C (c : Int) (sg5 (j : Int)) 3)
      have p3 := mn'_spec (mn' (mn' far (mv (gd X Y l s u d t) C (c : Int) (sg5 (j : Int)) 2)) (mv (gd X Y l s u d t) C (c : Int) (sg5 (j : Int)) 3)) (mv (gd X Y l s u d t) C (c : Int) (sg5 (j : Int)) 1)
      rw [← hC] at one
      have q0 := one 0 far (by omega) (by omega) (Int.le_refl _)
      have q1 := one 1 _ (by omega) (by omega) p1.1
      have q2 := one 2 _ (by omega) (by omega) (show mn' (mn' far (mv (gd X Y l s u d t) C (c : Int) (sg5 (j : Int)) 2)) (mv (gd X Y l s u d t) C (c : Int) (sg5 (j : Int)) 3) ≤ far by omega)
      have q3 := one 3 _ (by omega) (by omega) (show mn' (mn' (mn' far (mv (gd X Y l s u d t) C (c : Int) (sg5 (j : Int)) 2)) (mv (gd X Y l s u d t) C (c : Int) (sg5 (j : Int)) 3)) (mv (gd X Y l s u d t) C (c : Int) (sg5 (j : Int)) 1) ≤ far by omega)
      have s0 : sg 0 = 2 := rfl
      have s1 : sg 1 = 3 := rfl
      have s2 : sg 2 = 1 := rfl
      have s3 : sg 3 = 0 := rfl
      rw [s0] at q0
      rw [s1] at q1
      rw [s2] at q2
      rw [s3] at q3
      simp only [impl_costsTo.l4]
      rw [if_pos (by omega), show (1099511627776 : Int) = far from rfl, show k + 5 = (k + 4) + 1 from rfl, q0 (k + 4), show (0 : Int) + 1 = 1 from rfl, q1 (k + 3), show (1 : Int) + 1 = 2 from rfl, q2 (k + 2), show (2 : Int) + 1 = 3 from rfl, q3 (k + 1), show (3 : Int) + 1 = 4 from rfl]
      have hidx : 5 * c + j < row.length := by omega
      have hval : row[5 * c + j] = mn' (mn' (mn' (mn' far (mv (gd X Y l s u d t) C (c : Int) (sg5 (j : Int)) 2)) (mv (gd X Y l s u d t) C (c : Int) (sg5 (j : Int)) 3)) (mv (gd X Y l s u d t) C (c : Int) (sg5 (j : Int)) 1)) (mv (gd X Y l s u d t) C (c : Int) (sg5 (j : Int)) 0) := by
        subst hrow
        rw [rowOf_at, show ((5 * c + j : Nat) : Int) / 5 = (c : Int) from by omega, show ((5 * c + j : Nat) : Int) % 5 = (j : Int) from by omega, hC]
        rfl
      simp only [impl_costsTo.l5]
      rw [if_neg (by omega), w64 (x := (c : Int) * 5) (by omega) (by omega), w64 (x := (c : Int) * 5 + (j : Int)) (by omega) (by omega), if_pos (by omega), if_pos (by rw [fill_length row (0 : Int) (5 * c + j) (by omega)]; omega), ← hval, show ((c : Int) * 5 + (j : Int)).toNat = 5 * c + j from by omega, fill_step row (0 : Int) (5 * c + j) hidx, w64s (by omega)]
      exact hK k (by omega)) 0 (by omega)
  exact h
theorem costs_l3 {X Y : Int} {l : List Int} {s u d t : Int} (T : Terr X Y l s u d t) {b : Int} {rows : List (List Int)} {i : Nat} (hi : i < rows.length) (hi6 : i < 60) (hrl : rows.length ≤ 100) (R : RowOk (gd X Y l s u d t) b i rows[i]) (z1 : Int) (r : List (List Int)) {row : List Int} (hrow : row = rowOf (gd X Y l s u d t) b (i + 1))
    (H : ∃ K, ∀ k, K ≤ k → impl_costsTo.l2 k (rows ++ [row]) ((i + 2 : Nat) : Int) z1 X Y l s u d t = some r) :
    ∃ K, ∀ k, K ≤ k → impl_costsTo.l3 k rows ((i + 1 : Nat) : Int) (List.replicate row.length 0) z1 (l.length : Int) 0 X Y l s u d t = some r := by
  have hb := xy_bounds T.x T.y
  have hlen := T.len
  have hrl2 : (row.length : Int) = 5 * (X * Y) := by rw [hrow]; exact (rowOf_ok (gd_good T) b (i + 1)).len
  have h := ev_loop (F := fun k c => impl_costsTo.l3 k rows ((i + 1 : Nat) : Int) (row.take (5 * c) ++ List.replicate (row.length - 5 * c) 0) z1 (l.length : Int) (c : Int) X Y l s u d t) (n := l.length) (res := fun _ => r)
    (by
      obtain ⟨K, H⟩ := H
      exact ev_suc K fun k hk => by
        simp only [impl_costsTo.l3]
        rw [if_neg (by omega), if_pos (by omega), List.take_of_length_le (by omega), show row.length - 5 * l.length = 0 from by omega, List.replicate_zero, List.append_nil, w64s (by omega)]
        exact H k hk)
    (fun c hc K hK => by
      obtain ⟨K2, h2⟩ := costs_l4 T hi hi6 R (c := c) (by omega) z1 (l.length : Int) r hrow ⟨K, hK⟩
      exact ev_suc K2 fun k hk => by
        simp only [impl_costsTo.l3]
        rw [if_pos (by omega)]
        exact h2 k hk) 0 (by omega)
  simpa using h
/-- All rows. -/
def rowsOf (G : Gd) (b : Int) (n : Nat) : List (List Int) := (List.range n).map (rowOf G b)
theorem rowsOf_len (G : Gd) (b : Int) (n : Nat) : (rowsOf G b n).length = n := by simp [rowsOf]
theorem rowsOf_at (G : Gd) (b : Int) (n i : Nat) (h : i < (rowsOf G b n).length) : (rowsOf G b n)[i] = rowOf G b i := by simp [rowsOf]
theorem costsTo_ev {X Y : Int} {l : List Int} {s u d t : Int} (T : Terr X Y l s u d t) {b : Int} (b0 : 0 ≤ b) (b1 : b < X * Y) : ∃ K, ∀ k, K ≤ k → impl_costsTo.f k X Y l s u d t b = some (rowsOf (gd X Y l s u d t) b 60) := by
  have hb := xy_bounds T.x T.y
  have hlen := T.len
  have hG := gd_good T
  obtain ⟨N, hN⟩ : ∃ N, N = 5 * l.length := ⟨_, rfl⟩
  have hrN : ∀ i, (rowOf (gd X Y l s u d t) b i).length = N := fun i => by rw [rowOf_len]; show (5 * (X * Y)).toNat = N; omega
  have h2 := ev_loop (F := fun k i => impl_costsTo.l2 k (rowsOf (gd X Y l s u d t) b (i + 1)) ((i + 1 : Nat) : Int) (N : Int) X Y l s u d t) (n := 59) (res := fun _ => rowsOf (gd X Y l s u d t) b 60)
    (ev_suc 0 fun k _ => by
      simp only [impl_costsTo.l2]
      rw [if_neg (by omega)])
    (fun i hi K hK => by
      have hl1 := rowsOf_len (gd X Y l s u d t) b (i + 1)
      obtain ⟨K2, h3⟩ := costs_l3 T (b := b) (rows := rowsOf (gd X Y l s u d t) b (i + 1)) (i := i) (by omega) (by omega) (by omega) (by rw [rowsOf_at]; exact rowOf_ok hG b i) (N : Int) (rowsOf (gd X Y l s u d t) b 60) rfl ⟨K, fun k hk => by
        have h4 := hK k hk
        have e : rowsOf (gd X Y l s u d t) b (i + 1 + 1) = rowsOf (gd X Y l s u d t) b (i + 1) ++ [rowOf (gd X Y l s u d t) b (i + 1)] := by unfold rowsOf; rw [List.range_succ (n := i + 1), List.map_append]; rfl
        rw [e] at h4
        exact h4⟩
      exact ev_suc K2 fun k hk => by
        have h4 := h3 k hk
        rw [hrN] at h4
        simp only [impl_costsTo.l2]
        rw [if_pos (by omega), if_pos (by omega), if_pos (by omega), Int.toNat_natCast]
        exact h4) 0 (by omega)
  -- the first row
  have hset : ∀ i : Nat, i < 5 → ((List.range N).map fun (j : Nat) => if 5 * b ≤ (j : Int) ∧ (j : Int) < 5 * b + (i : Int) then (0 : Int) else far).set (5 * b + (i : Int)).toNat 0 = (List.range N).map fun (j : Nat) => if 5 * b ≤ (j : Int) ∧ (j : Int) < 5 * b + ((i + 1 : Nat) : Int) then (0 : Int) else far := by
    intro i hi
    apply List.ext_getElem
    · simp
    · intro j h1 h2
      simp only [List.length_map, List.length_range] at h2
      rw [List.getElem_set]
      simp only [List.getElem_map, List.getElem_range]
      by_cases g : (5 * b + (i : Int)).toNat = j
      · rw [if_pos g, if_pos (by omega)]
      · rw [if_neg g]
        by_cases g2 : 5 * b ≤ (j : Int) ∧ (j : Int) < 5 * b + (i : Int)
        · rw [if_pos g2, if_pos (by omega)]
        · rw [if_neg g2, if_neg (by omega)]
  have hlast : ((List.range N).map fun (j : Nat) => if 5 * b ≤ (j : Int) ∧ (j : Int) < 5 * b + ((5 : Nat) : Int) then (0 : Int) else far) = rowOf (gd X Y l s u d t) b 0 := by
    apply List.ext_getElem
    · simp [hrN]
    · intro j h1 h3
      rw [rowOf_at]
      simp only [List.getElem_map, List.getElem_range, Cx]
      by_cases g : 5 * b ≤ (j : Int) ∧ (j : Int) < 5 * b + ((5 : Nat) : Int)
      · rw [if_pos g, if_pos (by omega)]
      · rw [if_neg g, if_neg (by omega)]
  have h1 := ev_loop (F := fun k i => impl_costsTo.l1 k b ((List.range N).map fun (j : Nat) => if 5 * b ≤ (j : Int) ∧ (j : Int) < 5 * b + (i : Int) then (0 : Int) else far) (i : Int) (N : Int) X Y l s u d t) (n := 5) (res := fun _ => rowsOf (gd X Y l s u d t) b 60)
    (by
      obtain ⟨K, h2⟩ := h2
      exact ev_suc K fun k hk => by
        have h3 := h2 k hk
        simp only [impl_costsTo.l1]
        rw [if_neg (by omega), hlast]
        exact h3)
    (fun i hi K hK => ev_suc K fun k hk => by
      have h3 := hK k hk
      rw [← hset i hi] at h3
      simp only [impl_costsTo.l1]
      rw [if_pos (by omega), w64 (x := b * 5) (by omega) (by omega), w64 (x := b * 5 + (i : Int)) (by omega) (by omega), if_pos (by omega), if_pos (by simp; omega), w64s (by omega), show b * 5 + (i : Int) = 5 * b + (i : Int) from by omega]
      exact h3) 0 (by omega)
  have hstart : ((List.range N).map fun (j : Nat) => if 5 * b ≤ (j : Int) ∧ (j : Int) < 5 * b + ((0 : Nat) : Int) then (0 : Int) else far) = List.replicate N far := by
    apply List.ext_getElem
    · simp
    · intro j h1 h3
      simp only [List.getElem_map, List.getElem_range, List.getElem_replicate]
      rw [if_neg (by omega)]
  rw [hstart] at h1
  have h0 := ev_loop (F := fun k i => impl_costsTo.l0 k b ((List.replicate N far).take i ++ List.replicate ((List.replicate N far).length - i) 0) (N : Int) (i : Int) X Y l s u d t) (n := N) (res := fun _ => rowsOf (gd X Y l s u d t) b 60)
    (by
      obtain ⟨K, h1⟩ := h1
      exact ev_suc K fun k hk => by
        have h3 := h1 k hk
        simp only [impl_costsTo.l0]
        rw [if_neg (by omega), List.take_of_length_le (by simp), show (List.replicate N far).length - N = 0 from by simp, List.replicate_zero, List.append_nil]
        exact h3)
    (fun i hi K hK => ev_suc K fun k hk => by
      have h3 := hK k hk
      have hfs := fill_step (List.replicate N far) (0 : Int) i (by simpa using hi)
      have hfl := fill_length (List.replicate N far) (0 : Int) i (by simpa using Nat.le_of_lt hi)
      rw [List.getElem_replicate] at hfs
      simp only [impl_costsTo.l0]
      rw [if_pos (by omega), if_pos (by omega), if_pos (by rw [hfl]; simp; omega), Int.toNat_natCast, show (1099511627776 : Int) = far from rfl, hfs, w64s (by omega)]
      exact h3) 0 (by omega)
  obtain ⟨K, h0⟩ := h0
  refine ⟨K, fun k hk => ?_⟩
  have h3 := h0 k hk
  unfold impl_costsTo.f
  rw [w64 (x := (l.length : Int) * 5) (by omega) (by omega), if_pos (by omega), if_pos (by omega)]
  simp only [Option.bind_some, List.length_replicate]
  rw [show ((l.length : Int) * 5).toNat = N from by omega]
  rw [List.take_zero, List.nil_append, List.length_replicate, Nat.sub_zero] at h3
  exact h3
theorem rows_val {X Y : Int} {l : List Int} {s u d t : Int} (T : Terr X Y l s u d t) {b a : Int} (a0 : 0 ≤ a) (a1 : a < X * Y) (i : Nat) (hi : i < 60) {e : Int} (e0 : 0 ≤ e) (e1 : e ≤ 4) : rd (rd_L1 (rowsOf (gd X Y l s u d t) b 60) (i : Int)) (a * 5 + e) = Cx (gd X Y l s u d t) b i a (sg5 e) ∧ ((rd_L1 (rowsOf (gd X Y l s u d t) b 60) (i : Int)).length : Int) = 5 * (X * Y) := by
  have R := rowOf_ok (gd_good T) b i
  rw [rdLL_nat2 _ i (by rw [rowsOf_len]; exact hi), rowsOf_at]
  exact ⟨R.val a e a0 a1 e0 e1, R.len⟩
/-- The number of steps that is chosen. -/
theorem bestSteps_ev {X Y : Int} {l : List Int} {s u d t : Int} (T : Terr X Y l s u d t) {b a : Int} (a0 : 0 ≤ a) (a1 : a < X * Y) : ∃ r : Int, (∃ K, ∀ k, K ≤ k → impl_bestSteps.f k (rowsOf (gd X Y l s u d t) b 60) a = some r) ∧ ((r = -1 ∧ ∀ k, k < 60 → Cx (gd X Y l s u d t) b k a 4 = far) ∨ ∃ m : Nat, r = (m : Int) ∧ Best (gd X Y l s u d t) b a m) := by
  have hb := xy_bounds T.x T.y
  have hl := rowsOf_len (gd X Y l s u d t) b 60
  have key : ∀ m i : Nat, i + m = 60 → ∀ best : Int, ((best = -1 ∧ ∀ k, k < i → Cx (gd X Y l s u d t) b k a 4 = far) ∨ ∃ q : Nat, best = (q : Int) ∧ q < i ∧ Cx (gd X Y l s u d t) b q a 4 < far ∧ (∀ j, j < i → Cx (gd X Y l s u d t) b q a 4 ≤ Cx (gd X Y l s u d t) b j a 4) ∧ ∀ j, j < q → Cx (gd X Y l s u d t) b q a 4 < Cx (gd X Y l s u d t) b j a 4) →
      ∃ r : Int, (∃ K, ∀ k, K ≤ k → impl_bestSteps.l0 k (rowsOf (gd X Y l s u d t) b 60) a best ((rowsOf (gd X Y l s u d t) b 60).length : Int) (i : Int) = some r) ∧ ((r = -1 ∧ ∀ k, k < 60 → Cx (gd X Y l s u d t) b k a 4 = far) ∨ ∃ m : Nat, r = (m : Int) ∧ Best (gd X Y l s u d t) b a m) := by
    intro m
    induction m with
    | zero =>
      intro i hi best hB
      obtain rfl : i = 60 := by omega
      refine ⟨best, ev_suc 0 fun k _ => ?_, ?_⟩
      · simp only [impl_bestSteps.l0]
        rw [if_neg (by omega)]
      · rcases hB with h | ⟨q, h1, h2, h3, h4, h5⟩
        · exact .inl h
        · exact .inr ⟨q, h1, h2, h3, h4, h5⟩
    | succ m ih =>
      intro i hi best hB
      obtain ⟨v1, v2⟩ := rows_val T (b := b) a0 a1 i (by omega) (e := 4) (by omega) (by omega)
      have s4 : sg5 4 = 4 := rfl
      rw [s4] at v1
      have hfar : far = 1099511627776 := rfl
      have hcf := cx_far (G := gd X Y l s u d t) (b := b) i a 4
      have step : ∀ best2 : Int, ((best2 = -1 ∧ ∀ k, k < i + 1 → Cx (gd X Y l s u d t) b k a 4 = far) ∨ ∃ q : Nat, best2 = (q : Int) ∧ q < i + 1 ∧ Cx (gd X Y l s u d t) b q a 4 < far ∧ (∀ j, j < i + 1 → Cx (gd X Y l s u d t) b q a 4 ≤ Cx (gd X Y l s u d t) b j a 4) ∧ ∀ j, j < q → Cx (gd X Y l s u d t) b q a 4 < Cx (gd X Y l s u d t) b j a 4) →
          (∀ k, impl_bestSteps.l0 (k + 1) (rowsOf (gd X Y l s u d t) b 60) a best ((rowsOf (gd X Y l s u d t) b 60).length : Int) (i : Int) = impl_bestSteps.l0 k (rowsOf (gd X Y l s u d t) b 60) a best2 ((rowsOf (gd X Y l s u d t) b 60).length : Int) ((i + 1 : Nat) : Int)) → ∃ r : Int, (∃ K, ∀ k, K ≤ k → impl_bestSteps.l0 k (rowsOf (gd X Y l s u d t) b 60) a best ((rowsOf (gd X Y l s u d t) b 60).length : Int) (i : Int) = some r) ∧ ((r = -1 ∧ ∀ k, k < 60 → Cx (gd X Y l s u d t) b k a 4 = far) ∨ ∃ m : Nat, r = (m : Int) ∧ Best (gd X Y l s u d t) b a m) := by
        intro best2 h1 h2
        obtain ⟨r, ⟨K, hK⟩, h3⟩ := ih (i + 1) (by omega) best2 h1
        exact ⟨r, ev_suc K fun k hk => by rw [h2]; exact hK k hk, h3⟩
      by_cases g : Cx (gd X Y l s u d t) b i a 4 < 1099511627776
      · rcases hB with ⟨rfl, h1⟩ | ⟨q, rfl, h2, h3, h4, h5⟩
        · refine step (i : Int) (.inr ⟨i, rfl, by omega, by omega, fun j hj => ?_, fun j hj => ?_⟩) fun k => ?_
          · by_cases e : j = i
            · rw [e]; exact Int.le_refl _
            · rw [h1 j (by omega)]; exact hcf
          · rw [h1 j hj]; omega
          · simp only [impl_bestSteps.l0]
            rw [if_pos (by omega), if_pos (by omega), if_pos (by omega), w64 (x := a * 5) (by omega) (by omega), w64 (x := a * 5 + 4) (by omega) (by omega), if_pos (by omega), if_pos (by omega), v1, if_pos g, if_pos (by omega), w64s (by omega)]
        · obtain ⟨v3, v4⟩ := rows_val T (b := b) a0 a1 q (by omega) (e := 4) (by omega) (by omega)
          rw [s4] at v3
          by_cases g2 : Cx (gd X Y l s u d t) b i a 4 < Cx (gd X Y l s u d t) b q a 4
          · refine step (i : Int) (.inr ⟨i, rfl, by omega, by omega, fun j hj => ?_, fun j hj => ?_⟩) fun k => ?_
            · by_cases e : j = i
              · rw [e]; exact Int.le_refl _
              · have := h4 j (by omega); omega
            · have := h4 j hj; omega
            · simp only [impl_bestSteps.l0]
              rw [if_pos (by omega), if_pos (by omega), if_pos (by omega), w64 (x := a * 5) (by omega) (by omega), w64 (x := a * 5 + 4) (by omega) (by omega), if_pos (by omega), if_pos (by omega), v1, if_pos g, if_neg (by omega), if_pos (by omega), if_pos (by omega), if_pos (by omega), v3, if_pos g2, w64s (by omega)]
          · refine step (q : Int) (.inr ⟨q, rfl, by omega, h3, fun j hj => ?_, h5⟩) fun k => ?_
            · by_cases e : j = i
              · rw [e]; omega
              · exact h4 j (by omega)
            · simp only [impl_bestSteps.l0]
              rw [if_pos (by omega), if_pos (by omega), if_pos (by omega), w64 (x := a * 5) (by omega) (by omega), w64 (x := a * 5 + 4) (by omega) (by omega), if_pos (by omega), if_pos (by omega), v1, if_pos g, if_neg (by omega), if_pos (by omega), if_pos (by omega), if_pos (by omega), v3, if_neg g2, w64s (by omega)]
      · refine step best ?_ fun k => ?_
        · rcases hB with ⟨h0, h1⟩ | ⟨q, h0, h2, h3, h4, h5⟩
          · refine .inl ⟨h0, fun j hj => ?_⟩
            by_cases e : j = i
            · rw [e]; omega
            · exact h1 j (by omega)
          · refine .inr ⟨q, h0, by omega, h3, fun j hj => ?_, h5⟩
            by_cases e : j = i
            · rw [e]; omega
            · exact h4 j (by omega)
        · simp only [impl_bestSteps.l0]
          rw [if_pos (by omega), if_pos (by omega), if_pos (by omega), w64 (x := a * 5) (by omega) (by omega), w64 (x := a * 5 + 4) (by omega) (by omega), if_pos (by omega), if_pos (by omega), v1, if_neg g, w64s (by omega)]
  exact key 60 0 (by omega) (-1) (.inl ⟨rfl, fun k hk => by omega⟩)
theorem nb_val {X Y : Int} (hX : 1 ≤ X ∧ X ≤ 8) (hY : 1 ≤ Y ∧ Y ≤ 6) {c : Int} (h0 : 0 ≤ c) (h1 : c < X * Y) : (0 ≤ nbOf X Y c 0 → nbOf X Y c 0 = c + X) ∧ (0 ≤ nbOf X Y c 1 → nbOf X Y c 1 = c + 1 ∧ 2 ≤ X) ∧ (0 ≤ nbOf X Y c 2 → nbOf X Y c 2 = c - X) ∧ (0 ≤ nbOf X Y c 3 → nbOf X Y c 3 = c - 1 ∧ 2 ≤ X) := by
  have hc := cell_coords hX hY h0 h1
  have q := Int.mul_ediv_add_emod c X
  have place : ∀ d, 0 ≤ nbOf X Y c d → X * (nbOf X Y c d / X) + nbOf X Y c d % X = nbOf X Y c d ∧ 0 ≤ nbOf X Y c d % X ∧ nbOf X Y c d % X < X := fun d h => ⟨Int.mul_ediv_add_emod _ X, Int.emod_nonneg _ (by omega), Int.emod_lt_of_pos _ (by omega)⟩
  refine ⟨fun h => ?_, fun h => ?_, fun h => ?_, fun h => ?_⟩
  · have p := (nb_place hX hY h0 h1 (d := 0) (by omega) (by omega) h).1 rfl
    have r := (place 0 h).1
    rw [p.1, p.2, Int.mul_add, Int.mul_one] at r
    omega
  · have p := (nb_place hX hY h0 h1 (d := 1) (by omega) (by omega) h).2.1 rfl
    have r := place 1 h
    rw [p.1, p.2] at r
    omega
  · have p := (nb_place hX hY h0 h1 (d := 2) (by omega) (by omega) h).2.2.1 rfl
    have r := (place 2 h).1
    rw [p.1, p.2, Int.mul_sub, Int.mul_one] at r
    omega
  · have p := (nb_place hX hY h0 h1 (d := 3) (by omega) (by omega) h).2.2.2 rfl
    have r := place 3 h
    rw [p.1, p.2] at r
    omega
/-- What the reference does with one direction. -/
def pk (X Y c : Int) (g : Bool) (p : Int × Int) (d : Int) : Int × Int := if g = true then (if p.1 < 0 then (nbOf X Y c d, d) else if nbOf X Y c d < p.1 then (nbOf X Y c d, d) else p) else p
theorem pkF {X Y c : Int} (p : Int × Int) (d : Int) : pk X Y c false p d = p := rfl
theorem pk0 {X Y c : Int} (d : Int) : pk X Y c true (-1, -1) d = (nbOf X Y c d, d) := rfl
theorem pk2 {X Y c n f : Int} (d : Int) (h : 0 ≤ n) : pk X Y c true (n, f) d = if nbOf X Y c d < n then (nbOf X Y c d, d) else (n, f) := by
  unfold pk
  rw [if_pos rfl, if_neg (by simp only; omega)]
theorem pkL {X Y c n f : Int} (d : Int) (h : 0 ≤ n) (h2 : nbOf X Y c d < n) : pk X Y c true (n, f) d = (nbOf X Y c d, d) := by rw [pk2 d h, if_pos h2]
theorem pkG {X Y c n f : Int} (d : Int) (h : 0 ≤ n) (h2 : n ≤ nbOf X Y c d) : pk X Y c true (n, f) d = (n, f) := by rw [pk2 d h, if_neg (by omega)]
theorem pk_all {X Y : Int} (hX : 1 ≤ X ∧ X ≤ 8) (hY : 1 ≤ Y ∧ Y ≤ 6) {c : Int} (h0 : 0 ≤ c) (h1 : c < X * Y) (g : Int → Bool) (hg : ∀ d, g d = true → 0 ≤ nbOf X Y c d) (hs : g 0 = true ∨ g 1 = true ∨ g 2 = true ∨ g 3 = true) :
    pk X Y c (g 3) (pk X Y c (g 2) (pk X Y c (g 1) (pk X Y c (g 0) (-1, -1) 0) 1) 2) 3 = if g 2 = true then (nbOf X Y c 2, 2) else if g 3 = true then (nbOf X Y c 3, 3) else if g 1 = true then (nbOf X Y c 1, 1) else (nbOf X Y c 0, 0) := by
  obtain ⟨v0, v1, v2, v3⟩ := nb_val hX hY h0 h1
  have k0 := hg 0
  have k1 := hg 1
  have k2 := hg 2
  have k3 := hg 3
  cases e0 : g 0 <;> cases e1 : g 1 <;> cases e2 : g 2 <;> cases e3 : g 3 <;> simp only [e0, e1, e2, e3, Bool.false_eq_true, false_or, or_false, or_self, forall_const] at k0 k1 k2 k3 hs <;> simp only [pkF, pk0, Bool.false_eq_true, if_false, if_true] <;> simp (disch := omega) only [pkL, pkG]
theorem cheapest_loops {X Y : Int} {l : List Int} {s u d t : Int} (T : Terr X Y l s u d t) {a b : Int} (a0 : 0 ≤ a) (a1 : a < X * Y) (b0 : 0 ≤ b) (b1 : b < X * Y) {tab : List Int} (hW : TI (gd X Y l s u d t) b tab) (hT : Tab (gd X Y l s u d t) b (Ft tab)) {m : Nat} (hB : Best (gd X Y l s u d t) b a m) :
    ∀ (kk : Nat) (way : List Int) (c e : Int), At (gd X Y l s u d t) b a (Ft tab) kk c (sg5 e) → 0 ≤ e → e ≤ 4 → way.length + kk ≤ 100 → (∃ h : 0 < way.length, way[way.length - 1] = c) → ∃ r : List Int, (∃ K, ∀ k, K ≤ k → impl_CheapestWay.l0 k a (rowsOf (gd X Y l s u d t) b 60) (m : Int) way e (kk : Int) X Y l s u d t = some (r, Cx (gd X Y l s u d t) b m a 4, true)) ∧ (∃ K, ∀ k, K ≤ k → spec_roCheapest.l0 k tab b way c (sg5 e) X Y l s u d t = some r) ∧ 0 < r.length ∧ r.length ≤ 100 := by
  have hb := xy_bounds T.x T.y
  have hG := gd_good T
  have hL := gd_noloop T
  have h60 := hB.1
  have hFa := (best_eq hG hL hT a0 a1 hB).2.2
  have hrl := rowsOf_len (gd X Y l s u d t) b 60
  have htl : (tab.length : Int) = 5 * (X * Y) := hW.len
  intro kk
  induction kk with
  | zero =>
    intro way c e A e0 e1 hlen hway
    have hcb := at_end hG A
    obtain ⟨v1, v2⟩ := rows_val T (b := b) a0 a1 m h60 (e := 4) (by omega) (by omega)
    rw [show sg5 4 = 4 from rfl] at v1
    refine ⟨way, ev_suc 0 fun k _ => ?_, ev_suc 0 fun k _ => ?_, hway.choose, by omega⟩
    · simp only [impl_CheapestWay.l0]
      rw [if_neg (by omega), if_pos (by omega), if_pos (by omega), w64 (x := a * 5) (by omega) (by omega), w64 (x := a * 5 + 4) (by omega) (by omega), if_pos (by omega), if_pos (by omega), v1]
    · simp only [spec_roCheapest.l0]
      rw [if_pos hcb]
  | succ kk ih =>
    intro way c e A e0 e1 hlen hway
    obtain ⟨hw0, hw1⟩ := hway
    have c0 := A.c0
    have c1 : c < X * Y := A.c1
    have k59 := A.k59
    have hlt := A.lt
    have good := fun (f : Int) (f0 : 0 ≤ f) (f1 : f < 4) => at_good hG hL hT a0 a1 hFa A f0 f1
    have hcb := (good 0 (by omega) (by omega)).1
    have hFc := (good 0 (by omega) (by omega)).2.1
    obtain ⟨F, hF⟩ : ∃ F, F = Ft tab := ⟨_, rfl⟩
    rw [← hF] at good hFc
    -- the directions that are good
    obtain ⟨g, hgd⟩ : ∃ g : Int → Bool, g = fun f => decide (ov (gd X Y l s u d t) F c (sg5 e) f = F c (sg5 e)) := ⟨_, rfl⟩
    have gt : ∀ f, g f = true ↔ ov (gd X Y l s u d t) F c (sg5 e) f = F c (sg5 e) := fun f => by rw [hgd]; simp
    have gnb : ∀ f, g f = true → 0 ≤ nbOf X Y c f := fun f h => by
      have h2 := (gt f).1 h
      have h3 := ov_lt (h2 ▸ hFc : ov (gd X Y l s u d t) F c (sg5 e) f < far)
      exact (gd_ok.1 h3.1).1
    have gsome : g 0 = true ∨ g 1 = true ∨ g 2 = true ∨ g 3 = true := by
      obtain ⟨f, f0, f1, hf⟩ := hT.ex c (sg5 e) c0 c1 (sg5_rng e).1 (sg5_rng e).2 hcb (by rw [← hF]; exact hFc)
      have : f = 0 ∨ f = 1 ∨ f = 2 ∨ f = 3 := by omega
      rw [← hF] at hf
      rcases this with rfl | rfl | rfl | rfl
      · exact .inl ((gt _).2 hf.symm)
      · exact .inr (.inl ((gt _).2 hf.symm))
      · exact .inr (.inr (.inl ((gt _).2 hf.symm)))
      · exact .inr (.inr (.inr ((gt _).2 hf.symm)))
    -- the side that is chosen
    obtain ⟨q, hq⟩ : ∃ q : Int, q = if g 2 = true then 0 else if g 3 = true then 1 else if g 1 = true then 2 else 3 := ⟨_, rfl⟩
    have q0 : 0 ≤ q ∧ q < 4 := by rw [hq]; split; omega; split; omega; split <;> omega
    have hgq : g (sg q) = true := by
      rw [hq]
      by_cases h2 : g 2 = true
      · rw [if_pos h2]; exact h2
      · rw [if_neg h2]
        by_cases h3 : g 3 = true
        · rw [if_pos h3]; exact h3
        · rw [if_neg h3]
          by_cases h1 : g 1 = true
          · rw [if_pos h1]; exact h1
          · rw [if_neg h1]
            rcases gsome with h | h | h | h
            · exact h
            · exact absurd h h1
            · exact absurd h h2
            · exact absurd h h3
    have hsel : (if g 2 = true then (nbOf X Y c 2, (2 : Int)) else if g 3 = true then (nbOf X Y c 3, 3) else if g 1 = true then (nbOf X Y c 1, 1) else (nbOf X Y c 0, 0)) = (nbOf X Y c (sg q), sg q) := by
      rw [hq]
      by_cases h2 : g 2 = true
      · rw [if_pos h2, if_pos h2]; rfl
      · rw [if_neg h2, if_neg h2]
        by_cases h3 : g 3 = true
        · rw [if_pos h3, if_pos h3]; rfl
        · rw [if_neg h3, if_neg h3]
          by_cases h1 : g 1 = true
          · rw [if_pos h1, if_pos h1]; rfl
          · rw [if_neg h1, if_neg h1]; rfl
    have hfirst : ∀ f, 0 ≤ f → f < q → g (sg f) ≠ true := by
      intro f f0 f1
      rw [hq] at f1
      by_cases h2 : g 2 = true
      · rw [if_pos h2] at f1; omega
      · rw [if_neg h2] at f1
        by_cases h3 : g 3 = true
        · rw [if_pos h3] at f1
          obtain rfl : f = 0 := by omega
          exact h2
        · rw [if_neg h3] at f1
          by_cases h1 : g 1 = true
          · rw [if_pos h1] at f1
            have : f = 0 ∨ f = 1 := by omega
            rcases this with rfl | rfl
            · exact h2
            · exact h3
          · rw [if_neg h1] at f1
            have : f = 0 ∨ f = 1 ∨ f = 2 := by omega
            rcases this with rfl | rfl | rfl
            · exact h2
            · exact h3
            · exact h1
    have A2 := (good (sg q) (sg_rng q).1 (sg_rng q).2).2.2.2 ((gt _).1 hgq)
    have hs5 : sg5 q = sg q := by unfold sg5; rw [if_neg (by omega)]
    have hnn := gnb _ hgq
    obtain ⟨r, ⟨K1, h1⟩, ⟨K2, h2⟩, h3⟩ := ih (way ++ [nbOf X Y c (sg q)]) (nbOf X Y c (sg q)) q (by rw [hs5, ← hF]; exact A2) q0.1 (by omega) (by rw [List.length_append, List.length_singleton]; omega) ⟨by simp, by simp⟩
    rw [hs5] at h2
    refine ⟨r, ?_, ?_, h3⟩
    · -- the program
      have hcur : (rd way ((way.length : Int) - 1)) = c := by
        rw [show (way.length : Int) - 1 = ((way.length - 1 : Nat) : Int) from by omega, rd_nat _ _ (by omega)]
        exact hw1
      obtain ⟨v1, v2⟩ := rows_val T (b := b) c0 c1 (kk + 1) k59 e0 e1
      obtain ⟨_, v4⟩ := rows_val T (b := b) c0 c1 kk (by omega) e0 e1
      have R := rowOf_ok hG b kk
      have hrow : rd_L1 (rowsOf (gd X Y l s u d t) b 60) (kk : Int) = rowOf (gd X Y l s u d t) b kk := by rw [rdLL_nat2 _ kk (by omega), rowsOf_at]
      have go : ∀ (mm : Nat) (f : Int), 0 ≤ f → f + (mm : Int) = q → ∃ K, ∀ k, K ≤ k → impl_CheapestWay.l1 k a (rowsOf (gd X Y l s u d t) b 60) (m : Int) way e ((kk + 1 : Nat) : Int) c f X Y l s u d t = some (r, Cx (gd X Y l s u d t) b m a 4, true) := by
        intro mm
        induction mm with
        | zero =>
          intro f f0 hf
          obtain rfl : f = q := by omega
          obtain ⟨o1, o2, o3⟩ := (good (sg f) (sg_rng f).1 (sg_rng f).2).2.2.1.1 ((gt _).1 hgq)
          have hne := (sg_al e0 e1 f0 q0.2).1 o2
          refine ev_suc K1 fun k hk => ?_
          simp only [impl_CheapestWay.l1]
          rw [if_pos q0.2, sideOf_eq T.x T.y l s u d t c0 c1 f, w64 (x := 3 - e) (by omega) (by omega), w64 (x := c * 5) (by omega) (by omega), w64 (x := c * 5 + e) (by omega) (by omega), w64 (x := ((kk + 1 : Nat) : Int) - 1) (by omega) (by omega), show ((kk + 1 : Nat) : Int) - 1 = (kk : Int) from by omega]
          simp only [Option.bind_some]
          rw [if_pos hnn, if_neg hne, if_pos (by omega), if_pos (by omega), if_pos (by omega), if_pos (by omega), if_pos (by omega), if_pos (by omega), hrow, moveCost_ev T R c0 c1 e0 e1 f0 q0.2 rfl hnn hne, v1]
          simp only [Option.bind_some]
          rw [if_pos o3, if_pos (by omega)]
          exact h1 k hk
        | succ mm im =>
          intro f f0 hf
          obtain ⟨K, hK⟩ := im (f + 1) (by omega) (by omega)
          have hng := hfirst f f0 (by omega)
          have hgf := (good (sg f) (sg_rng f).1 (sg_rng f).2).2.2.1
          refine ev_suc K fun k hk => ?_
          have hK2 := hK k hk
          simp only [impl_CheapestWay.l1]
          rw [if_pos (by omega), sideOf_eq T.x T.y l s u d t c0 c1 f, w64 (x := 3 - e) (by omega) (by omega), w64 (x := c * 5) (by omega) (by omega), w64 (x := c * 5 + e) (by omega) (by omega), w64 (x := ((kk + 1 : Nat) : Int) - 1) (by omega) (by omega), show ((kk + 1 : Nat) : Int) - 1 = (kk : Int) from by omega, w64 (x := f + 1) (by omega) (by omega)]
          simp only [Option.bind_some]
          by_cases g1 : nbOf X Y c (sg f) ≥ 0
          · rw [if_pos g1]
            by_cases g2 : f = 3 - e
            · rw [if_pos g2]
              exact hK2
            · rw [if_neg g2, if_pos (by omega), if_pos (by omega), if_pos (by omega), if_pos (by omega), if_pos (by omega), if_pos (by omega), hrow, moveCost_ev T R c0 c1 e0 e1 f0 (by omega) rfl g1 g2, v1]
              simp only [Option.bind_some]
              rw [if_neg (fun heq => hng ((gt _).2 (hgf.2 ?_)))]
              · exact hK2
              · rw [heq] at hlt
                have hm := mv_lt hlt
                exact ⟨hm.1, hm.2.1, heq⟩
          · rw [if_neg g1]
            exact hK2
      obtain ⟨K, hK⟩ := go q.toNat 0 (by omega) (by omega)
      refine ev_suc K fun k hk => ?_
      simp only [impl_CheapestWay.l0]
      rw [if_pos (by omega), w64 (x := (way.length : Int) - 1) (by omega) (by omega), if_pos (by omega), if_pos (by omega), hcur]
      exact hK k hk
    · -- the reference
      have hidx : rd tab (5 * c + sg5 e) = F c (sg5 e) := by rw [hF]; rfl
      have hs := sg5_rng e
      have one : ∀ (k : Nat) (p : Int × Int) (f : Int), 2 ≤ k → 0 ≤ f → f < 4 → spec_roCheapest.l1 (k + 1) tab b way c (sg5 e) p.1 p.2 f X Y l s u d t = spec_roCheapest.l1 k tab b way c (sg5 e) (pk X Y c (g f) p f).1 (pk X Y c (g f) p f).2 (f + 1) X Y l s u d t := by
        intro k p f hk f0 f1
        simp only [spec_roCheapest.l1]
        rw [if_pos f1, roNeighbour_ev T.x T.y l s u d t c0 c1 f k (by omega), roOver_ev T hW c0 c1 hs.1 hs.2 f0 f1 k hk, ← hF, w64 (x := 5 * c) (by omega) (by omega), w64 (x := 5 * c + sg5 e) (by omega) (by omega), w64 (x := f + 1) (by omega) (by omega)]
        simp only [Option.bind_some]
        rw [if_pos (by omega), if_pos (by omega), hidx]
        unfold pk
        by_cases h : ov (gd X Y l s u d t) F c (sg5 e) f = F c (sg5 e)
        · rw [if_pos h, if_pos ((gt f).2 h)]
          split
          · rfl
          · split <;> rfl
        · rw [if_neg h, if_neg (fun q => h ((gt f).1 q))]
      refine ev_suc (K2 + 10) fun k hk => ?_
      obtain ⟨k, rfl⟩ : ∃ m, k = m + 5 := ⟨k - 5, by omega⟩
      simp only [spec_roCheapest.l0]
      rw [if_neg hcb]
      have p0 := one (k + 4) (-1, -1) 0 (by omega) (by omega) (by omega)
      have p1 := one (k + 3) (pk X Y c (g 0) (-1, -1) 0) 1 (by omega) (by omega) (by omega)
      have p2 := one (k + 2) (pk X Y c (g 1) (pk X Y c (g 0) (-1, -1) 0) 1) 2 (by omega) (by omega) (by omega)
      have p3 := one (k + 1) (pk X Y c (g 2) (pk X Y c (g 1) (pk X Y c (g 0) (-1, -1) 0) 1) 2) 3 (by omega) (by omega) (by omega)
      have hall := pk_all T.x T.y c0 c1 g gnb gsome
      rw [hsel] at hall
      rw [hall] at p3
      simp only at p0
      rw [show k + 5 = k + 4 + 1 from rfl, p0, show (0 : Int) + 1 = 1 from rfl, show k + 4 = k + 3 + 1 from rfl, p1, show (1 : Int) + 1 = 2 from rfl, show k + 3 = k + 2 + 1 from rfl, p2, show (2 : Int) + 1 = 3 from rfl, show k + 2 = k + 1 + 1 from rfl, p3]
      simp only [spec_roCheapest.l1]
      rw [if_neg (by omega), if_pos (by omega)]
      exact h2 k (by omega)
theorem roTable_ev2 {X Y : Int} {l : List Int} {s u d t : Int} (T : Terr X Y l s u d t) {b : Int} (b0 : 0 ≤ b) (b1 : b < X * Y) : ∃ r, (∃ K, ∀ k, K ≤ k → spec_roTable.f k X Y l s u d t b = some r) ∧ TI (gd X Y l s u d t) b r ∧ Tab (gd X Y l s u d t) b (Ft r) := by
  obtain ⟨r, h1, h2, h3⟩ := roTable_ev T b0 b1
  refine ⟨r, h1, ⟨h2, h3.lo, h3.at0, fun c e c0 c1 e0 e1 hc => ?_⟩, h3⟩
  by_cases g : Ft r c e < far
  · obtain ⟨d, d0, d1, hd⟩ := h3.ex c e c0 c1 e0 e1 hc g
    rw [hd]
    exact (stp_spec _ _ c e).1 d d0 d1
  · have := (stp_spec (gd X Y l s u d t) (Ft r) c e).2.1
    omega
theorem cheapestWay_both (x y : Int) (l : List Int) (s u d t : Int) (hl : l.length ≤ 1048576) (a b : Int) : ∃ r, (∃ K, ∀ k, K ≤ k → spec_CheapestWay.f k x y l s u d t a b = some r) ∧ (∃ K, ∀ k, K ≤ k → impl_CheapestWay.f k x y l s u d t a b = some r) ∧ r.1.length ≤ 1000 := by
  obtain ⟨K1, h1⟩ := roCell_ev x y l s u d t hl a
  obtain ⟨K2, h2⟩ := roCell_ev x y l s u d t hl b
  obtain ⟨K3, h3⟩ := areCells_ev x y l s u d t hl [a, b] (by simp)
  by_cases g : (terrOk x y l s u d t && (inr 0 ((l.length : Int) - 1) a && inr 0 ((l.length : Int) - 1) b)) = true
  · simp only [Bool.and_eq_true] at g
    obtain ⟨g1, g2, g3⟩ := g
    have T := (terrOk_iff _ _ _ _ _ _ _).1 g1
    have i1 := (inr_iff _ _ _).1 g2
    have i2 := (inr_iff _ _ _).1 g3
    have hlen := T.len
    have hb := xy_bounds T.x T.y
    have a1 : a < x * y := by omega
    have b1 : b < x * y := by omega
    obtain ⟨tab, ⟨K4, h4⟩, hW, hT⟩ := roTable_ev2 T i2.1 b1
    obtain ⟨K5, h5⟩ := costsTo_ev T i2.1 b1
    obtain ⟨st, ⟨K6, h6⟩, h7⟩ := bestSteps_ev T (b := b) i1.1 a1
    have htl : (tab.length : Int) = 5 * (x * y) := hW.len
    have hF : rd tab (5 * a + 4) = Ft tab a 4 := rfl
    have hfar : far = 1099511627776 := rfl
    have pre : ∀ k, K1 + K2 + K4 ≤ k → ∀ r, (spec_roCheapest.f k x y l s u d t tab a b).bind (fun t183 => if (t183.length : Int) = 0 then some (([] : List Int), 0, false) else if 0 ≤ 5 * a + 4 then if 5 * a + 4 < (tab.length : Int) then some (t183, wrap64 (Int.tdiv (rd tab (5 * a + 4)) 1000), true) else none else none) = some r → spec_CheapestWay.f (k + 1) x y l s u d t a b = some r := by
      intro k hk r hr
      unfold spec_CheapestWay.f
      rw [h1 _ (by omega), h2 _ (by omega), g1, g2, g3]
      simp only [Bool.and_self, Option.bind_some, if_true, Bool.not_true, spec_CheapestWay.j0, Bool.false_eq_true, if_false]
      rw [h4 k (by omega)]
      simp only [Option.bind_some]
      rw [w64 (x := 5 * a) (by omega) (by omega), w64 (x := 5 * a + 4) (by omega) (by omega)]
      exact hr
    rcases h7 with ⟨rfl, h8⟩ | ⟨m, rfl, h8⟩
    · have hFa := best_none (gd_good T) (gd_noloop T) hT i1.1 a1 h8
      refine ⟨([], 0, false), ⟨K1 + K2 + K4 + 1, fun k hk => ?_⟩, ⟨K3 + K5 + K6, fun k hk => ?_⟩, by simp⟩
      · obtain ⟨k, rfl⟩ : ∃ m, k = m + 1 := ⟨k - 1, by omega⟩
        refine pre k (by omega) _ ?_
        unfold spec_roCheapest.f
        rw [w64 (x := 5 * a) (by omega) (by omega), w64 (x := 5 * a + 4) (by omega) (by omega), if_pos (by omega), if_pos (by omega), hF, if_pos (by omega)]
        rfl
      · unfold impl_CheapestWay.f
        rw [h3 k (by omega)]
        simp only [List.all_cons, List.all_nil, g1, g2, g3, Bool.and_self, Bool.and_true, Option.bind_some, if_true, h5 k (show K5 ≤ k by omega), h6 k (show K6 ≤ k by omega)]
        rw [if_pos (by omega)]
    · obtain ⟨e1, e2, e3⟩ := best_eq (gd_good T) (gd_noloop T) hT i1.1 a1 h8
      have h60 := h8.1
      have A := at_start (gd_good T) (gd_noloop T) hT i1.1 a1 h8
      obtain ⟨r, ⟨K7, h9⟩, ⟨K8, h10⟩, h11, h12⟩ := cheapest_loops T i1.1 a1 i2.1 b1 hW hT h8 m [a] a 4 A (by omega) (by omega) (by simp; omega) ⟨by simp, by simp⟩
      have hlo := cx_nonneg (gd_good T) (b := b) m (c := a) (e := 4) i1.1 a1
      refine ⟨(r, Cx (gd x y l s u d t) b m a 4, true), ⟨K1 + K2 + K4 + K8 + 1, fun k hk => ?_⟩, ⟨K3 + K5 + K6 + K7, fun k hk => ?_⟩, by simp only; omega⟩
      · obtain ⟨k, rfl⟩ : ∃ m, k = m + 1 := ⟨k - 1, by omega⟩
        refine pre k (by omega) _ ?_
        unfold spec_roCheapest.f
        have h13 := h10 k (by omega)
        rw [show sg5 4 = 4 from rfl] at h13
        rw [w64 (x := 5 * a) (by omega) (by omega), w64 (x := 5 * a + 4) (by omega) (by omega), if_pos (by omega), if_pos (by omega), hF, if_neg (by omega), h13]
        simp only [Option.bind_some]
        rw [if_neg (by omega), if_pos (by omega), if_pos (by omega), e1, Int.tdiv_eq_ediv_of_nonneg (by omega), w64 (by omega) (by omega), show (1000 * Cx (gd x y l s u d t) b m a 4 + (m : Int)) / 1000 = Cx (gd x y l s u d t) b m a 4 from by omega]
      · unfold impl_CheapestWay.f
        rw [h3 k (by omega)]
        simp only [List.all_cons, List.all_nil, g1, g2, g3, Bool.and_self, Bool.and_true, Option.bind_some, if_true, h5 k (show K5 ≤ k by omega), h6 k (show K6 ≤ k by omega)]
        rw [if_neg (by omega)]
        exact h9 k (by omega)
  · refine ⟨([], 0, false), ⟨K1 + K2 + 1, fun k hk => ?_⟩, ⟨K3, fun k hk => ?_⟩, by simp⟩
    · obtain ⟨k, rfl⟩ : ∃ m, k = m + 1 := ⟨k - 1, by omega⟩
      unfold spec_CheapestWay.f
      rw [h1 _ (by omega), h2 _ (by omega)]
      cases c1 : terrOk x y l s u d t <;> cases c2 : inr 0 ((l.length : Int) - 1) a <;> cases c3 : inr 0 ((l.length : Int) - 1) b <;> simp [c1, c2, c3, spec_CheapestWay.j0] at g ⊢
    · unfold impl_CheapestWay.f
      rw [h3 k (by omega)]
      cases c1 : terrOk x y l s u d t <;> cases c2 : inr 0 ((l.length : Int) - 1) a <;> cases c3 : inr 0 ((l.length : Int) - 1) b <;> simp [c1, c2, c3] at g ⊢
theorem FnExactCheapestWay (x y : Int) (l : List Int) (s u d t a b : Int) (_ : (Lit.int .i64 x).wf = true) (_ : (Lit.int .i64 y).wf = true) (hl : l.length ≤ maxLen) (_ : ∀ z ∈ l, (Lit.int .i64 z).wf = true) (_ : (Lit.int .i64 s).wf = true) (_ : (Lit.int .i64 u).wf = true) (_ : (Lit.int .i64 d).wf = true) (_ : (Lit.int .i64 t).wf = true) (_ : (Lit.int .i64 a).wf = true) (_ : (Lit.int .i64 b).wf = true) : ∃ k, laws_FnExactCheapestWay.f k x y l s u d t a b = some true := by
  obtain ⟨z, h0, hs⟩ := szTerrain_ev x y l s u d t 1048576 (by omega) hl
  by_cases hneg : z < 0
  · refine ⟨0, ?_⟩
    simp only [laws_FnExactCheapestWay.f, h0, Option.bind_some, hneg, if_true]
  · have hs2 := hs (by omega)
    obtain ⟨K1, h1⟩ := toTerrain_ev x y l s u d t (by omega)
    obtain ⟨r, ⟨K2, h2⟩, ⟨K3, h3⟩, hr⟩ := cheapestWay_both x y l s u d t (by omega) a b
    obtain ⟨K4, h4⟩ := eqTerrain_ev x y l s u d t (by omega)
    obtain ⟨K5, h5⟩ := eqIntS_ev r.1 (by omega)
    obtain ⟨K6, h6⟩ := markTerrain_ev x y l s u d t (by omega)
    obtain ⟨K7, h7⟩ := markIntS_ev r.1 (by omega) 1 (by omega)
    obtain ⟨K8, h8⟩ := heldIntS_ev r.1.length (by omega) 1 (by omega)
    have n1 : ¬ (1 + (l.length : Int) < 0) := by omega
    have n2 : ¬ (1 + (r.1.length : Int) < 0) := by omega
    refine ⟨K1 + K2 + K3 + K4 + K5 + K6 + K7 + K8 + 4, ?_⟩
    simp (disch := omega) only [laws_FnExactCheapestWay.f, h0, h1, h2, h3, h5, Option.bind_some, hneg, if_true, if_false, bne_self_eq_false, Bool.false_eq_true]
    simp (disch := omega) only [laws_FnExactCheapestWay.j0, h1, h4, h5, h6, n1, Option.bind_some, if_true, if_false, bne_self_eq_false, Bool.false_eq_true]
    simp (disch := omega) only [laws_FnExactCheapestWay.j1, h1, h3, h5, h7, h8, n2, Option.bind_some, if_true, if_false, bne_self_eq_false, Bool.false_eq_true]
    simp (disch := omega) only [laws_FnExactCheapestWay.j2, h8, n2, Option.bind_some, if_true, if_false, Bool.false_eq_true]

end Go.Proofs.YtbgjhdhdfdfpkaaDoor.Pure
