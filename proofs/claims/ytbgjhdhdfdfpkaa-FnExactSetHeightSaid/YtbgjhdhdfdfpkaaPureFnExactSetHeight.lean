/- THE PURE SIDE OF FnExactSetHeight: the printed functions of the reference and of the program give the same results. Plain Lean: no memory and no Go. -/
import Derived.Test.YtbgjhdhdfdfpkaaPFnExactSetHeightx5
import Derived.OpenShut
namespace Go.Proofs.Ytbgjhdhdfdfpkaa.Pure
open Go.RowKit Go.Proofs.Ytbgjhdhdfdfpkaa.PFnExactSetHeight Go.Proofs.YtbgjhdhdfdfpkaaW.PrintWords Go.Proofs.YtbgjhdhdfdfpkaaW.PrintLast Go.Proofs.YtbgjhdhdfdfpkaaW.PrintMore
set_option linter.unusedVariables false
set_option linter.unusedSimpArgs false

theorem w64 {x : Int} (h1 : -9223372036854775808 ≤ x) (h2 : x ≤ 9223372036854775807) : wrap64 x = x := by unfold wrap64; omega
theorem w64s {i : Nat} (h : i ≤ 9000000000000000000) : wrap64 ((i : Int) + 1) = ((i + 1 : Nat) : Int) := by rw [w64 (by omega) (by omega)]; omega
theorem rd_nat (l : List Int) (i : Nat) (h : i < l.length) : rd l (i : Int) = l[i] := by simp [rd, List.getD_eq_getElem?_getD, h]
theorem wf64 {x : Int} (h : (Lit.int .i64 x).wf = true) : -9223372036854775808 ≤ x ∧ x ≤ 9223372036854775807 := by
  have := bounds_i64 h
  omega
def inr (lo hi x : Int) : Bool := decide (lo ≤ x) && decide (x ≤ hi)
theorem inr_iff (lo hi x : Int) : inr lo hi x = true ↔ lo ≤ x ∧ x ≤ hi := by simp [inr]
theorem inr_false (lo hi x : Int) : inr lo hi x = false ↔ ¬ (lo ≤ x ∧ x ≤ hi) := by rw [← inr_iff, Bool.not_eq_true]
theorem mx_of_lt {a b : Int} (h : a < b) : mx a b = b := if_pos h
theorem mx_of_ge {a b : Int} (h : b ≤ a) : mx a b = a := if_neg (by omega)
theorem mx_spec (a b : Int) : a ≤ mx a b ∧ b ≤ mx a b ∧ (mx a b = a ∨ mx a b = b) := by unfold mx; split <;> omega
theorem l1In_eq (a b c : Int) : spec_l1In.f a b c = some (inr b c a) := by
  unfold spec_l1In.f inr
  by_cases h : a ≥ b
  · rw [if_pos h]; simp [show b ≤ a from h]
  · rw [if_neg h]; simp [show ¬ b ≤ a from h]
theorem l1All_l0 (lo hi : Int) (l : List Int) (hl : l.length ≤ 9000000000000000000) : ∀ (d k i : Nat), i + d = l.length → d < k → spec_l1All.l0 k lo hi l (l.length : Int) (i : Int) = some ((l.drop i).all (inr lo hi)) := by
  intro d
  induction d with
  | zero =>
    intro k i hi' hk
    obtain ⟨k, rfl⟩ : ∃ m, k = m + 1 := ⟨k - 1, by omega⟩
    simp only [spec_l1All.l0]
    rw [if_neg (by omega), List.drop_of_length_le (by omega)]; rfl
  | succ d ih =>
    intro k i hi' hk
    obtain ⟨k, rfl⟩ : ∃ m, k = m + 1 := ⟨k - 1, by omega⟩
    have hlt : i < l.length := by omega
    simp only [spec_l1All.l0]
    rw [if_pos (by omega), if_pos (by omega), if_pos (by omega), l1In_eq, List.drop_eq_getElem_cons hlt, List.all_cons, rd_nat l i hlt, w64s (by omega), ih k (i + 1) (by omega) (by omega)]
    simp only [Option.bind_some]
    by_cases h : inr lo hi l[i] = true
    · rw [if_pos h, h, Bool.true_and]
    · rw [if_neg h, Bool.eq_false_iff.mpr h, Bool.false_and]
theorem l1All_eq (lo hi : Int) (l : List Int) (hl : l.length ≤ 9000000000000000000) (k : Nat) (hk : l.length < k) : spec_l1All.f k l lo hi = some (l.all (inr lo hi)) := by
  unfold spec_l1All.f
  exact l1All_l0 lo hi l hl l.length k 0 (by omega) hk
theorem eqIntS_l0 (l : List Int) (hl : l.length ≤ 9000000000000000000) : ∀ (d k i : Nat), i + d = l.length → d < k → laws_eqIntS.l0 k l l (i : Int) = some true := by
  intro d
  induction d with
  | zero =>
    intro k i hi' hk
    obtain ⟨k, rfl⟩ : ∃ m, k = m + 1 := ⟨k - 1, by omega⟩
    simp only [laws_eqIntS.l0]
    rw [if_neg (by omega)]
  | succ d ih =>
    intro k i hi' hk
    obtain ⟨k, rfl⟩ : ∃ m, k = m + 1 := ⟨k - 1, by omega⟩
    simp only [laws_eqIntS.l0]
    rw [if_pos (by omega), if_pos (by omega), if_pos (by omega), if_pos trivial, w64s (by omega)]
    exact ih k (i + 1) (by omega) (by omega)
theorem eqIntS_self (l : List Int) (hl : l.length ≤ 9000000000000000000) (k : Nat) (hk : l.length < k) : laws_eqIntS.f k l l = some true := by
  unfold laws_eqIntS.f
  rw [if_pos rfl]
  exact eqIntS_l0 l hl l.length k 0 (by omega) hk
/-- What 'mark' writes: numbers in their order. -/
def ramp (a : Int) (n : Nat) : List Int := (List.range n).map fun (i : Nat) => a + (i : Int)
theorem ramp_length (a : Int) (n : Nat) : (ramp a n).length = n := by simp [ramp]
theorem ramp_succ (a : Int) (n : Nat) : ramp a (n + 1) = ramp a n ++ [a + (n : Int)] := by simp [ramp, List.range_succ]
theorem ramp_at (a : Int) (n i : Nat) (h : i < n) : rd (ramp a n) (i : Int) = a + (i : Int) := by
  rw [rd_nat _ _ (by rw [ramp_length]; exact h)]
  simp [ramp]
theorem markIntS_l0 (a : Int) (ha : 0 ≤ a ∧ a ≤ 1000000000000000000) (l : List Int) (hl : l.length ≤ 1000000000000000000) : ∀ (d k i : Nat), i + d = l.length → d < k → laws_markIntS.l0 k (ramp a i ++ l.drop i) (a + (i : Int)) (i : Int) = some (a + (l.length : Int), ramp a l.length) := by
  intro d
  induction d with
  | zero =>
    intro k i hi' hk
    obtain ⟨k, rfl⟩ : ∃ m, k = m + 1 := ⟨k - 1, by omega⟩
    obtain rfl : i = l.length := by omega
    simp only [laws_markIntS.l0]
    rw [if_neg (by simp [ramp_length]), List.drop_of_length_le (Nat.le_refl _), List.append_nil]
  | succ d ih =>
    intro k i hi' hk
    obtain ⟨k, rfl⟩ : ∃ m, k = m + 1 := ⟨k - 1, by omega⟩
    have hlt : i < l.length := by omega
    simp only [laws_markIntS.l0]
    rw [if_pos (by simp [ramp_length]; omega), if_pos (by omega), Int.toNat_natCast, List.drop_eq_getElem_cons hlt]
    rw [List.set_append_right _ _ (by rw [ramp_length]; exact Nat.le_refl _), ramp_length, Nat.sub_self, List.set_cons_zero]
    rw [w64s (by omega), w64 (by omega) (by omega)]
    have h := ih k (i + 1) (by omega) (by omega)
    rw [ramp_succ, List.append_assoc, List.singleton_append, show a + ((i + 1 : Nat) : Int) = a + (i : Int) + 1 from by omega] at h
    exact h
theorem markIntS_eq (a : Int) (ha : 0 ≤ a ∧ a ≤ 1000000000000000000) (l : List Int) (hl : l.length ≤ 1000000000000000000) (k : Nat) (hk : l.length < k) : laws_markIntS.f k l a = some (a + (l.length : Int), ramp a l.length) := by
  unfold laws_markIntS.f
  have h := markIntS_l0 a ha l hl l.length k 0 (by omega) hk
  simpa [ramp] using h
theorem heldIntS_l0 (a : Int) (ha : 0 ≤ a ∧ a ≤ 1000000000000000000) (n : Nat) (hl : n ≤ 1000000000000000000) : ∀ (d k i : Nat), i + d = n → d < k → laws_heldIntS.l0 k (ramp a n) (a + (i : Int)) (i : Int) = some (a + (n : Int)) := by
  intro d
  induction d with
  | zero =>
    intro k i hi' hk
    obtain ⟨k, rfl⟩ : ∃ m, k = m + 1 := ⟨k - 1, by omega⟩
    obtain rfl : i = n := by omega
    simp only [laws_heldIntS.l0]
    rw [if_neg (by rw [ramp_length]; omega)]
  | succ d ih =>
    intro k i hi' hk
    obtain ⟨k, rfl⟩ : ∃ m, k = m + 1 := ⟨k - 1, by omega⟩
    simp only [laws_heldIntS.l0]
    rw [if_pos (by rw [ramp_length]; omega), if_pos (by omega), ramp_at a n i (by omega), if_pos rfl, w64s (by omega), w64 (by omega) (by omega)]
    have h := ih k (i + 1) (by omega) (by omega)
    rw [show a + ((i + 1 : Nat) : Int) = a + (i : Int) + 1 from by omega] at h
    exact h
theorem heldIntS_eq (a : Int) (ha : 0 ≤ a ∧ a ≤ 1000000000000000000) (n : Nat) (hl : n ≤ 1000000000000000000) (k : Nat) (hk : n < k) : laws_heldIntS.f k (ramp a n) a = some (a + (n : Int)) := by
  unfold laws_heldIntS.f
  have h := heldIntS_l0 a ha n hl n k 0 (by omega) hk
  simpa using h

theorem ev_loop {β : Type} {F : Nat → Nat → Option β} {n : Nat} {res : Nat → β} (last : ∃ K, ∀ k, K ≤ k → F k n = some (res n)) (step : ∀ i, i < n → ∀ K, (∀ k, K ≤ k → F k (i + 1) = some (res (i + 1))) → ∃ K, ∀ k, K ≤ k → F k i = some (res i)) : ∀ i, i ≤ n → ∃ K, ∀ k, K ≤ k → F k i = some (res i) := by
  have key : ∀ d i, i + d = n → ∃ K, ∀ k, K ≤ k → F k i = some (res i) := by
    intro d
    induction d with
    | zero => intro i h; obtain rfl : i = n := by omega
              exact last
    | succ d ih =>
      intro i h
      obtain ⟨K, hK⟩ := ih (i + 1) (by omega)
      exact step i (by omega) K hK
  exact fun i h => key (n - i) i (by omega)
/-- One round more. -/
theorem ev_suc {β : Type} {g : Nat → Option β} {r : β} (K : Nat) (h : ∀ k, K ≤ k → g (k + 1) = some r) : ∃ K, ∀ k, K ≤ k → g k = some r :=
  ⟨K + 1, fun k hk => by obtain ⟨k, rfl⟩ : ∃ m, k = m + 1 := ⟨k - 1, by omega⟩; exact h k (by omega)⟩
theorem fill_step {α : Type} (l : List α) (z : α) (i : Nat) (h : i < l.length) : (l.take i ++ List.replicate (l.length - i) z).set i l[i] = l.take (i + 1) ++ List.replicate (l.length - (i + 1)) z := by
  have e : l.length - i = (l.length - (i + 1)) + 1 := by omega
  rw [List.set_append_right _ _ (by rw [List.length_take]; omega), List.length_take, Nat.min_eq_left (by omega), Nat.sub_self, e, List.replicate_succ, List.set_cons_zero, List.take_succ_eq_append_getElem h, List.append_assoc, List.singleton_append]
theorem fill_length {α : Type} (l : List α) (z : α) (i : Nat) (h : i ≤ l.length) : (l.take i ++ List.replicate (l.length - i) z).length = l.length := by
  rw [List.length_append, List.length_take, List.length_replicate]; omega
theorem fill_last {α : Type} (l : List α) (z : α) : l.take l.length ++ List.replicate (l.length - l.length) z = l := by simp
/-- What 'sz' leaves: where it isn't below 0, the row is no longer than that. -/
theorem szIntS_ev (l : List Int) (a : Int) (ha : 0 ≤ a ∧ a ≤ 1048576) (hl : l.length ≤ maxLen) : ∃ r, laws_szIntS.f l a = some r ∧ (0 ≤ r → r = a - l.length) ∧ (r < 0 → a < l.length) := by
  simp only [maxLen] at hl
  unfold laws_szIntS.f
  rw [w64 (by omega) (by omega)]
  by_cases h : a - (l.length : Int) < 0
  · exact ⟨-1, by rw [if_pos h], fun h2 => by omega, fun _ => by omega⟩
  · exact ⟨a - (l.length : Int), by rw [if_neg h], fun _ => rfl, fun h2 => by omega⟩
theorem toIntS_ev (l : List Int) (hl : l.length ≤ 1048576) : ∃ K, ∀ k, K ≤ k → laws_toIntS.f k l = some l := by
  have h := ev_loop (F := fun k i => laws_toIntS.l0 k l (l.take i ++ List.replicate (l.length - i) 0) (i : Int)) (n := l.length) (res := fun _ => l)
    (ev_suc 0 fun k _ => by simp only [laws_toIntS.l0]; rw [if_neg (by omega), fill_last])
    (fun i hi K hK => ev_suc K fun k hk => by
      simp only [laws_toIntS.l0]
      rw [if_pos (by omega), if_pos (by omega), if_pos (by rw [fill_length l 0 i (by omega)]; omega), Int.toNat_natCast, rd_nat l i hi, fill_step l 0 i hi, w64s (by omega)]
      exact hK k hk) 0 (Nat.zero_le _)
  obtain ⟨K, h⟩ := h
  refine ⟨K, fun k hk => ?_⟩
  unfold laws_toIntS.f
  rw [if_pos (by omega), if_pos (by omega), Int.toNat_natCast]
  simpa using h k hk
theorem eqIntS_ev (l : List Int) (hl : l.length ≤ 1048576) : ∃ K, ∀ k, K ≤ k → laws_eqIntS.f k l l = some true :=
  ⟨l.length + 1, fun k hk => eqIntS_self l (by omega) k (by omega)⟩
theorem markIntS_ev (l : List Int) (hl : l.length ≤ 1048576) (a : Int) (ha : 0 ≤ a ∧ a ≤ 1000000000000000000) : ∃ K, ∀ k, K ≤ k → laws_markIntS.f k l a = some (a + (l.length : Int), ramp a l.length) :=
  ⟨l.length + 1, fun k hk => markIntS_eq a ha l (by omega) k (by omega)⟩
theorem heldIntS_ev (n : Nat) (hl : n ≤ 1048576) (a : Int) (ha : 0 ≤ a ∧ a ≤ 1000000000000000000) : ∃ K, ∀ k, K ≤ k → laws_heldIntS.f k (ramp a n) a = some (a + (n : Int)) :=
  ⟨n + 1, fun k hk => heldIntS_eq a ha n (by omega) k (by omega)⟩
theorem l1All_ev (lo hi : Int) (l : List Int) (hl : l.length ≤ 1048576) : ∃ K, ∀ k, K ≤ k → spec_l1All.f k l lo hi = some (l.all (inr lo hi)) :=
  ⟨l.length + 1, fun k hk => l1All_eq lo hi l (by omega) k (by omega)⟩

theorem szTerrain_ev (x y : Int) (l : List Int) (s u d t : Int) (a : Int) (ha : 0 ≤ a ∧ a ≤ 1048576) (hl : l.length ≤ maxLen) : ∃ r, laws_szTerrain.f x y l s u d t a = some r ∧ (0 ≤ r → (l.length : Int) ≤ a) := by
  unfold laws_szTerrain.f
  obtain ⟨r1, h1, h2, h3⟩ := szIntS_ev l a ha hl
  rw [h1]
  simp only [Option.bind_some]
  by_cases n1 : r1 < 0
  · exact ⟨-1, by rw [if_pos n1], fun h => by omega⟩
  · exact ⟨r1, by rw [if_neg n1], fun h => by have := h2 h; omega⟩
theorem toTerrain_ev (x y : Int) (l : List Int) (s u d t : Int) (hl : l.length ≤ 1048576) : ∃ K, ∀ k, K ≤ k → laws_toTerrain.f k x y l s u d t = some (x, y, l, s, u, d, t) := by
  obtain ⟨K1, h1⟩ := toIntS_ev l hl
  exact ⟨K1, fun k hk => by simp (disch := omega) only [laws_toTerrain.f, h1, Option.bind_some]⟩
theorem eqTerrain_ev (x y : Int) (l : List Int) (s u d t : Int) (hl : l.length ≤ 1048576) : ∃ K, ∀ k, K ≤ k → laws_eqTerrain.f k x y l s u d t x y l s u d t = some true := by
  obtain ⟨K1, h1⟩ := eqIntS_ev l hl
  exact ⟨K1, fun k hk => by simp (disch := omega) only [laws_eqTerrain.f, h1, Option.bind_some, if_true]⟩
def terrOk (x y : Int) (l : List Int) (s u d t : Int) : Bool := inr 1 8 x && (inr 1 6 y && (decide ((l.length : Int) = x * y) && (l.all (inr 0 200) && (inr 0 200 s && [u, d, t].all (inr 0 100)))))
structure Terr (X Y : Int) (H : List Int) (S U D R : Int) : Prop where
  x : 1 ≤ X ∧ X ≤ 8
  y : 1 ≤ Y ∧ Y ≤ 6
  len : (H.length : Int) = X * Y
  all : ∀ h ∈ H, 0 ≤ h ∧ h ≤ 200
  s : 0 ≤ S ∧ S ≤ 200
  u : 0 ≤ U ∧ U ≤ 100
  d : 0 ≤ D ∧ D ≤ 100
  t : 0 ≤ R ∧ R ≤ 100
theorem terrOk_iff (x y : Int) (l : List Int) (s u d t : Int) : terrOk x y l s u d t = true ↔ Terr x y l s u d t := by
  simp only [terrOk, Bool.and_eq_true, inr_iff, decide_eq_true_eq, List.all_eq_true, List.mem_cons, List.not_mem_nil, or_false]
  constructor
  · rintro ⟨h1, h2, h3, h4, h5, h6⟩
    exact ⟨h1, h2, h3, h4, h5, h6 u (.inl rfl), h6 d (.inr (.inl rfl)), h6 t (.inr (.inr rfl))⟩
  · rintro ⟨h1, h2, h3, h4, h5, h6, h7, h8⟩
    refine ⟨h1, h2, h3, h4, h5, ?_⟩
    rintro z (rfl | rfl | rfl)
    · exact h6
    · exact h7
    · exact h8
theorem xy_bounds {x y : Int} (hx : 1 ≤ x ∧ x ≤ 8) (hy : 1 ≤ y ∧ y ≤ 6) : 1 ≤ x * y ∧ x * y ≤ 48 := by
  have h1 : 1 * 1 ≤ x * y := Int.mul_le_mul hx.1 hy.1 (by omega) (by omega)
  have h2 : x * y ≤ 8 * 6 := Int.mul_le_mul hx.2 hy.2 (by omega) (by omega)
  omega
theorem roGood_ev (x y : Int) (l : List Int) (s u d t : Int) (hl : l.length ≤ 1048576) : ∃ K, ∀ k, K ≤ k → spec_roGood.f k x y l s u d t = some (terrOk x y l s u d t) := by
  obtain ⟨K1, h1⟩ := l1All_ev 0 200 l hl
  refine ⟨K1 + 10, fun k hk => ?_⟩
  have h2 := l1All_eq 0 100 [u, d, t] (by simp) k (by simp; omega)
  unfold spec_roGood.f terrOk
  simp only [l1In_eq, Option.bind_some, h1 k (by omega), h2]
  by_cases hx : inr 1 8 x = true
  · by_cases hy : inr 1 6 y = true
    · have hb := xy_bounds ((inr_iff _ _ _).1 hx) ((inr_iff _ _ _).1 hy)
      rw [if_pos hx, if_pos hy, hx, hy, w64 (x := x * y) (by omega) (by omega)]
      by_cases h3 : (l.length : Int) = x * y
      · rw [if_pos h3, decide_eq_true h3]
        cases l.all (inr 0 200) <;> cases inr 0 200 s <;> simp
      · rw [if_neg h3, decide_eq_false h3]; rfl
    · rw [if_pos hx, if_neg hy, hx, Bool.eq_false_iff.mpr hy]; rfl
  · rw [if_neg hx, Bool.eq_false_iff.mpr hx]; rfl
theorem isTerrain_l1 (l : List Int) (hl : l.length ≤ 1048576) : ∃ K, ∀ k, K ≤ k → impl_IsTerrain.l1 k l (l.length : Int) 0 = some (l.all (inr 0 100)) := by
  have h := ev_loop (F := fun k i => impl_IsTerrain.l1 k l (l.length : Int) (i : Int)) (n := l.length) (res := fun i => (l.drop i).all (inr 0 100))
    (ev_suc 0 fun k _ => by
      simp only [impl_IsTerrain.l1]
      rw [if_neg (by omega), List.drop_of_length_le (Nat.le_refl _)]
      rfl)
    (fun j hj K hK => ev_suc K fun k hk => by
      simp only [impl_IsTerrain.l1]
      rw [if_pos (by omega), if_pos (by omega), if_pos (by omega), rd_nat l j hj, List.drop_eq_getElem_cons hj, List.all_cons]
      by_cases h1 : l[j] < 0
      · rw [if_pos h1, (inr_false _ _ _).2 (by omega)]; rfl
      · rw [if_neg h1]
        by_cases h2 : l[j] > 100
        · rw [if_pos h2, (inr_false _ _ _).2 (by omega)]; rfl
        · rw [if_neg h2, (inr_iff _ _ _).2 (by omega), w64s (by omega), hK k hk]; rfl) 0 (Nat.zero_le _)
  exact h
theorem implIsTerrain_ev (x y : Int) (l : List Int) (s u d t : Int) (hl : l.length ≤ 1048576) : ∃ K, ∀ k, K ≤ k → impl_IsTerrain.f k x y l s u d t = some (terrOk x y l s u d t) := by
  obtain ⟨K1, h1⟩ := isTerrain_l1 [u, d, t] (by simp)
  have h := ev_loop (F := fun k i => impl_IsTerrain.l0 k l (l.length : Int) (i : Int) x y l s u d t) (n := l.length) (res := fun i => (l.drop i).all (inr 0 200) && [u, d, t].all (inr 0 100))
    (ev_suc K1 fun k hk => by
      simp only [impl_IsTerrain.l0]
      rw [if_neg (by omega), List.drop_of_length_le (Nat.le_refl _)]
      simp only [Option.bind_some]
      rw [h1 k hk]
      rfl)
    (fun j hj K hK => ev_suc K fun k hk => by
      simp only [impl_IsTerrain.l0]
      rw [if_pos (by omega), if_pos (by omega), if_pos (by omega), rd_nat l j hj, List.drop_eq_getElem_cons hj, List.all_cons]
      by_cases h1 : l[j] < 0
      · rw [if_pos h1, (inr_false _ _ _).2 (by omega)]; rfl
      · rw [if_neg h1]
        by_cases h2 : l[j] > 200
        · rw [if_pos h2, (inr_false _ _ _).2 (by omega)]; rfl
        · rw [if_neg h2, (inr_iff _ _ _).2 (by omega), w64s (by omega), hK k hk]; rfl) 0 (Nat.zero_le _)
  obtain ⟨K, h⟩ := h
  refine ev_suc K fun k hk => ?_
  have h := h k hk
  have hj : ∀ b, impl_IsTerrain.j0 (k + 1) b x y l s u d t = some (!b && (l.all (inr 0 200) && [u, d, t].all (inr 0 100))) := by
    intro b
    simp only [impl_IsTerrain.j0]
    cases b
    · rw [if_neg (by simp)]
      simpa using h
    · rw [if_pos rfl]; rfl
  unfold impl_IsTerrain.f terrOk
  simp only [hj]
  by_cases h1 : x < 1
  · rw [if_pos h1, (inr_false 1 8 x).2 (by omega)]; rfl
  · rw [if_neg h1]
    by_cases h2 : x > 8
    · rw [if_pos h2, (inr_false 1 8 x).2 (by omega)]; rfl
    · rw [if_neg h2, (inr_iff 1 8 x).2 (by omega)]
      by_cases h3 : y < 1
      · rw [if_pos h3, (inr_false 1 6 y).2 (by omega)]; rfl
      · rw [if_neg h3]
        by_cases h4 : y > 6
        · rw [if_pos h4, (inr_false 1 6 y).2 (by omega)]; rfl
        · have hb := xy_bounds (x := x) (y := y) (by omega) (by omega)
          rw [if_neg h4, (inr_iff 1 6 y).2 (by omega), w64 (x := x * y) (by omega) (by omega)]
          by_cases h5 : (l.length : Int) = x * y
          · rw [if_pos h5, decide_eq_true h5]
            by_cases h6 : s < 0
            · rw [if_pos h6, (inr_false 0 200 s).2 (by omega)]; simp
            · rw [if_neg h6]
              by_cases h7 : s > 200
              · rw [decide_eq_true h7, (inr_false 0 200 s).2 (by omega)]; simp
              · rw [decide_eq_false h7, (inr_iff 0 200 s).2 (by omega)]; simp
          · rw [if_neg h5, decide_eq_false h5]; rfl
theorem areCells_ev (x y : Int) (l : List Int) (s u d t : Int) (hl : l.length ≤ 1048576) (c : List Int) (hc : c.length ≤ 1048576) : ∃ K, ∀ k, K ≤ k → impl_areCells.f k x y l s u d t c = some (terrOk x y l s u d t && c.all (inr 0 ((l.length : Int) - 1))) := by
  obtain ⟨K1, h1⟩ := implIsTerrain_ev x y l s u d t hl
  have h := ev_loop (F := fun k i => impl_areCells.l0 k c (c.length : Int) (i : Int) x y l s u d t) (n := c.length) (res := fun i => (c.drop i).all (inr 0 ((l.length : Int) - 1)))
    (ev_suc 0 fun k _ => by
      simp only [impl_areCells.l0]
      rw [if_neg (by omega), List.drop_of_length_le (Nat.le_refl _)]
      rfl)
    (fun j hj K hK => ev_suc K fun k hk => by
      simp only [impl_areCells.l0]
      rw [if_pos (by omega), if_pos (by omega), if_pos (by omega), rd_nat c j hj, List.drop_eq_getElem_cons hj, List.all_cons]
      by_cases h1 : c[j] < 0
      · rw [if_pos h1, (inr_false _ _ _).2 (by omega)]; rfl
      · rw [if_neg h1]
        by_cases h2 : c[j] ≥ (l.length : Int)
        · rw [if_pos h2, (inr_false _ _ _).2 (by omega)]; rfl
        · rw [if_neg h2, (inr_iff _ _ _).2 (by omega), w64s (by omega), hK k hk]; rfl) 0 (Nat.zero_le _)
  obtain ⟨K2, h2⟩ := h
  refine ⟨K1 + K2, fun k hk => ?_⟩
  unfold impl_areCells.f
  rw [h1 k (by omega)]
  simp only [Option.bind_some]
  by_cases g : terrOk x y l s u d t = true
  · rw [if_pos g, g, Bool.true_and]
    exact h2 k (by omega)
  · rw [if_neg g, Bool.eq_false_iff.mpr g, Bool.false_and]
theorem roCell_ev (x y : Int) (l : List Int) (s u d t : Int) (hl : l.length ≤ 1048576) (c : Int) : ∃ K, ∀ k, K ≤ k → spec_roCell.f k x y l s u d t c = some (terrOk x y l s u d t && inr 0 ((l.length : Int) - 1) c) := by
  obtain ⟨K1, h1⟩ := roGood_ev x y l s u d t hl
  refine ⟨K1, fun k hk => ?_⟩
  unfold spec_roCell.f
  rw [h1 k (by omega)]
  simp only [Option.bind_some]
  by_cases g : terrOk x y l s u d t = true
  · have T := (terrOk_iff _ _ _ _ _ _ _).1 g
    have hb := xy_bounds T.x T.y
    rw [if_pos g, g, Bool.true_and, l1In_eq, w64 (x := x * y) (by omega) (by omega), w64 (x := x * y - 1) (by omega) (by omega), T.len]
    rfl
  · rw [if_neg g, Bool.eq_false_iff.mpr g, Bool.false_and]
theorem markTerrain_ev (x y : Int) (l : List Int) (s u d t : Int) (hl : l.length ≤ 1048576) : ∃ K, ∀ k, K ≤ k → laws_markTerrain.f k x y l s u d t 1 = some (1 + (l.length : Int), ramp 1 l.length) := by
  obtain ⟨K, h⟩ := markIntS_ev l hl 1 (by omega)
  exact ⟨K, fun k hk => by simp (disch := omega) only [laws_markTerrain.f, h, Option.bind_some]⟩
theorem heldTerrain_ev (x y : Int) (n : Nat) (s u d t : Int) (hl : n ≤ 1048576) : ∃ K, ∀ k, K ≤ k → laws_heldTerrain.f k x y (ramp 1 n) s u d t 1 = some (1 + (n : Int)) := by
  obtain ⟨K, h⟩ := heldIntS_ev n hl 1 (by omega)
  have q : ¬ (1 + (n : Int) < 0) := by omega
  exact ⟨K, fun k hk => by simp (disch := omega) only [laws_heldTerrain.f, h, Option.bind_some, q, if_false]⟩
theorem setHeight_both (x y : Int) (l : List Int) (s u d t : Int) (hl : l.length ≤ 1048576) (a h : Int) : ∃ r, (∃ K, ∀ k, K ≤ k → spec_SetHeight.f k x y l s u d t a h = some r) ∧ (∃ K, ∀ k, K ≤ k → impl_SetHeight.f k x y l s u d t a h = some r) ∧ r.2.2.1.length ≤ 1048576 := by
  obtain ⟨K1, h1⟩ := roCell_ev x y l s u d t hl a
  obtain ⟨K3, h3⟩ := areCells_ev x y l s u d t hl [a] (by simp)
  by_cases g : (terrOk x y l s u d t && inr 0 ((l.length : Int) - 1) a) = true
  · have g2 : (terrOk x y l s u d t && [a].all (inr 0 ((l.length : Int) - 1))) = true := by simpa using g
    have ga := (inr_iff _ _ _).1 (Bool.and_eq_true_iff.1 g).2
    by_cases gh : inr 0 200 h = true
    · have gh2 := (inr_iff _ _ _).1 gh
      refine ⟨(x, y, l.set a.toNat h, s, u, d, t, true), ⟨K1, fun k hk => ?_⟩, ⟨K3, fun k hk => ?_⟩, by simp only [List.length_set]; omega⟩
      · unfold spec_SetHeight.f spec_l1Own.f
        rw [h1 k hk, l1In_eq]
        simp only [Option.bind_some, List.nil_append, List.length_nil, Nat.zero_add]
        rw [if_pos g, if_pos gh, if_pos (by omega)]
        simp only [Option.bind_some]
        rw [if_pos (by omega), if_pos (by omega)]
      · unfold impl_SetHeight.f
        rw [h3 k hk]
        simp only [Option.bind_some, List.nil_append, List.length_nil, Nat.zero_add]
        rw [if_pos g2, if_neg (by omega), if_neg (by omega), if_pos (by omega), if_pos (by omega), if_pos (by omega)]
    · have gh2 := (inr_false _ _ _).1 (Bool.eq_false_iff.mpr gh)
      refine ⟨(0, 0, [], 0, 0, 0, 0, false), ⟨K1, fun k hk => ?_⟩, ⟨K3, fun k hk => ?_⟩, by simp⟩
      · unfold spec_SetHeight.f
        rw [h1 k hk, l1In_eq]
        simp only [Option.bind_some]
        rw [if_pos g, if_neg gh]
      · unfold impl_SetHeight.f
        rw [h3 k hk]
        simp only [Option.bind_some]
        rw [if_pos g2]
        by_cases q : h < 0
        · rw [if_pos q]
        · rw [if_neg q, if_pos (by omega)]
  · have g2 : ¬ (terrOk x y l s u d t && [a].all (inr 0 ((l.length : Int) - 1))) = true := by simpa using g
    refine ⟨(0, 0, [], 0, 0, 0, 0, false), ⟨K1, fun k hk => ?_⟩, ⟨K3, fun k hk => ?_⟩, by simp⟩
    · unfold spec_SetHeight.f
      rw [h1 k hk]
      simp only [Option.bind_some]
      rw [if_neg g]
    · unfold impl_SetHeight.f
      rw [h3 k hk]
      simp only [Option.bind_some]
      rw [if_neg g2]
theorem FnExactSetHeight (x y : Int) (l : List Int) (s u d t a h : Int) (_ : (Lit.int .i64 x).wf = true) (_ : (Lit.int .i64 y).wf = true) (hl : l.length ≤ maxLen) (_ : ∀ z ∈ l, (Lit.int .i64 z).wf = true) (_ : (Lit.int .i64 s).wf = true) (_ : (Lit.int .i64 u).wf = true) (_ : (Lit.int .i64 d).wf = true) (_ : (Lit.int .i64 t).wf = true) (_ : (Lit.int .i64 a).wf = true) (_ : (Lit.int .i64 h).wf = true) : ∃ k, laws_FnExactSetHeight.f k x y l s u d t a h = some true := by
  obtain ⟨z, h0, hs⟩ := szTerrain_ev x y l s u d t 1048576 (by omega) hl
  by_cases hneg : z < 0
  · refine ⟨0, ?_⟩
    simp only [laws_FnExactSetHeight.f, h0, Option.bind_some, hneg, if_true]
  · have hs2 := hs (by omega)
    obtain ⟨K1, h1⟩ := toTerrain_ev x y l s u d t (by omega)
    obtain ⟨⟨rx, ry, rl, rs, ru, rdd, rt, rok⟩, ⟨K2, h2⟩, ⟨K3, h3⟩, hr⟩ := setHeight_both x y l s u d t (by omega) a h
    simp only at hr
    obtain ⟨K4, h4⟩ := eqTerrain_ev x y l s u d t (by omega)
    obtain ⟨K5, h5⟩ := eqTerrain_ev rx ry rl rs ru rdd rt hr
    obtain ⟨K6, h6⟩ := markTerrain_ev x y l s u d t (by omega)
    obtain ⟨K7, h7⟩ := markTerrain_ev rx ry rl rs ru rdd rt hr
    obtain ⟨K8, h8⟩ := heldTerrain_ev rx ry rl.length rs ru rdd rt hr
    have q1 : ¬ (1 + (l.length : Int) < 0) := by omega
    have q2 : ¬ (1 + (rl.length : Int) < 0) := by omega
    refine ⟨K1 + K2 + K3 + K4 + K5 + K6 + K7 + K8 + 5, ?_⟩
    simp (disch := omega) only [laws_FnExactSetHeight.f, h0, h1, h2, h3, h5, Option.bind_some, hneg, if_true, if_false, bne_self_eq_false, Bool.false_eq_true]
    simp (disch := omega) only [laws_FnExactSetHeight.j0, h1, h4, h5, h6, q1, Option.bind_some, if_true, if_false, bne_self_eq_false, Bool.false_eq_true]
    simp (disch := omega) only [laws_FnExactSetHeight.j1, h1, h3, h5, h7, h8, q2, Option.bind_some, if_true, if_false, bne_self_eq_false, Bool.false_eq_true]
    simp (disch := omega) only [laws_FnExactSetHeight.j2, h8, q2, Option.bind_some, if_true, if_false, Bool.false_eq_true]

end Go.Proofs.Ytbgjhdhdfdfpkaa.Pure
