/- THE PURE SIDE OF FnExactHeightsText: the printed functions of the reference and of the program give the same results. Plain Lean: no memory and no Go. -/
import Derived.Test.YtbgjhdhdfdfpkaaDoorPFnExactHeightsTextx4
import Derived.OpenShut
import Derived.Lib.Join
namespace Go.Proofs.YtbgjhdhdfdfpkaaDoor.Pure
open Go.RowKit Go.Proofs.YtbgjhdhdfdfpkaaDoor.PFnExactHeightsText Go.Proofs.YtbgjhdhdfdfpkaaDoorW.PrintWords Go.Proofs.YtbgjhdhdfdfpkaaDoorW.PrintLast Go.Proofs.YtbgjhdhdfdfpkaaDoorW.PrintMore
set_option linter.unusedVariables false
set_option linter.unusedSimpArgs false

theorem w64 {x : Int} (h1 : -9223372036854775808 ≤ x) (h2 : x ≤ 9223372036854775807) : wrap64 x = x := by unfold wrap64; omega
theorem w64s {i : Nat} (h : i ≤ 9000000000000000000) : wrap64 ((i : Int) + 1) = ((i + 1 : Nat) : Int) := by rw [w64 (by omega) (by omega)]; omega
theorem rd_nat (l : List Int) (i : Nat) (h : i < l.length) : rd l (i : Int) = l[i] := by simp [rd, List.getD_eq_getElem?_getD, h]
theorem wf64 {x : Int} (h : (Lit.int .i64 x).wf = true) : -9223372036854775808 ≤ x ∧ x ≤ 9223372036854775807 := by
  have := bounds_i64 h
  omega
def inr (lo hi x : Int) : Bool := decide (lo ≤ x) && decide (x ≤ hi)
theorem inr_iff (lo hi x : Int) : inr lo hi x = true ↔ lo ≤ x ∧ x ≤ hi := by simp [inr]
theorem inr_false (lo hi x : Int) : inr lo hi x = false ↔ ¬ (lo ≤ x ∧ x ≤ hi) := by rw [← inr_iff, Bool.not_eq_true]
theorem mx_of_lt {a b : Int} (h : a < b) : mx a b = b := if_pos h
theorem mx_of_ge {a b : Int} (h : b ≤ a) : mx a b = a := if_neg (by omega)
theorem mx_spec (a b : Int) : a ≤ mx a b ∧ b ≤ mx a b ∧ (mx a b = a ∨ mx a b = b) := by unfold mx; split <;> omega
theorem l1In_eq (a b c : Int) : spec_l1In.f a b c = some (inr b c a) := by
  unfold spec_l1In.f inr
  by_cases h : a ≥ b
  · rw [if_pos h]; simp [show b ≤ a from h]
  · rw [if_neg h]; simp [show ¬ b ≤ a from h]
theorem l1All_l0 (lo hi : Int) (l : List Int) (hl : l.length ≤ 9000000000000000000) : ∀ (d k i : Nat), i + d = l.length → d < k → spec_l1All.l0 k lo hi l (l.length : Int) (i : Int) = some ((l.drop i).all (inr lo hi)) := by
  intro d
  induction d with
  | zero =>
    intro k i hi' hk
    obtain ⟨k, rfl⟩ : ∃ m, k = m + 1 := ⟨k - 1, by omega⟩
    simp only [spec_l1All.l0]
    rw [if_neg (by omega), List.drop_of_length_le (by omega)]; rfl
  | succ d ih =>
    intro k i hi' hk
    obtain ⟨k, rfl⟩ : ∃ m, k = m + 1 := ⟨k - 1, by omega⟩
    have hlt : i < l.length := by omega
    simp only [spec_l1All.l0]
    rw [if_pos (by omega), if_pos (by omega), if_pos (by omega), l1In_eq, List.drop_eq_getElem_cons hlt, List.all_cons, rd_nat l i hlt, w64s (by omega), ih k (i + 1) (by omega) (by omega)]
    simp only [Option.bind_some]
    by_cases h : inr lo hi l[i] = true
    · rw [if_pos h, h, Bool.true_and]
    · rw [if_neg h, Bool.eq_false_iff.mpr h, Bool.false_and]
theorem l1All_eq (lo hi : Int) (l : List Int) (hl : l.length ≤ 9000000000000000000) (k : Nat) (hk : l.length < k) : spec_l1All.f k l lo hi = some (l.all (inr lo hi)) := by
  unfold spec_l1All.f
  exact l1All_l0 lo hi l hl l.length k 0 (by omega) hk
theorem eqIntS_l0 (l : List Int) (hl : l.length ≤ 9000000000000000000) : ∀ (d k i : Nat), i + d = l.length → d < k → laws_eqIntS.l0 k l l (i : Int) = some true := by
  intro d
  induction d with
  | zero =>
    intro k i hi' hk
    obtain ⟨k, rfl⟩ : ∃ m, k = m + 1 := ⟨k - 1, by omega⟩
    simp only [laws_eqIntS.l0]
    rw [if_neg (by omega)]
  | succ d ih =>
    intro k i hi' hk
    obtain ⟨k, rfl⟩ : ∃ m, k = m + 1 := ⟨k - 1, by omega⟩
    simp only [laws_eqIntS.l0]
    rw [if_pos (by omega), if_pos (by omega), if_pos (by omega), if_pos trivial, w64s (by omega)]
    exact ih k (i + 1) (by omega) (by omega)
theorem eqIntS_self (l : List Int) (hl : l.length ≤ 9000000000000000000) (k : Nat) (hk : l.length < k) : laws_eqIntS.f k l l = some true := by
  unfold laws_eqIntS.f
  rw [if_pos rfl]
  exact eqIntS_l0 l hl l.length k 0 (by omega) hk
theorem ev_loop {β : Type} {F : Nat → Nat → Option β} {n : Nat} {res : Nat → β} (last : ∃ K, ∀ k, K ≤ k → F k n = some (res n)) (step : ∀ i, i < n → ∀ K, (∀ k, K ≤ k → F k (i + 1) = some (res (i + 1))) → ∃ K, ∀ k, K ≤ k → F k i = some (res i)) : ∀ i, i ≤ n → ∃ K, ∀ k, K ≤ k → F k i = some (res i) := by
  have key : ∀ d i, i + d = n → ∃ K, ∀ k, K ≤ k → F k i = some (res i) := by
    intro d
    induction d with
    | zero => intro i h; obtain rfl : i = n := by omega
              exact last
    | succ d ih =>
      intro i h
      obtain ⟨K, hK⟩ := ih (i + 1) (by omega)
      exact step i (by omega) K hK
  exact fun i h => key (n - i) i (by omega)
/-- One round more. -/
theorem ev_suc {β : Type} {g : Nat → Option β} {r : β} (K : Nat) (h : ∀ k, K ≤ k → g (k + 1) = some r) : ∃ K, ∀ k, K ≤ k → g k = some r :=
  ⟨K + 1, fun k hk => by obtain ⟨k, rfl⟩ : ∃ m, k = m + 1 := ⟨k - 1, by omega⟩; exact h k (by omega)⟩
theorem fill_step {α : Type} (l : List α) (z : α) (i : Nat) (h : i < l.length) : (l.take i ++ List.replicate (l.length - i) z).set i l[i] = l.take (i + 1) ++ List.replicate (l.length - (i + 1)) z := by
  have e : l.length - i = (l.length - (i + 1)) + 1 := by omega
  rw [List.set_append_right _ _ (by rw [List.length_take]; omega), List.length_take, Nat.min_eq_left (by omega), Nat.sub_self, e, List.replicate_succ, List.set_cons_zero, List.take_succ_eq_append_getElem h, List.append_assoc, List.singleton_append]
theorem fill_length {α : Type} (l : List α) (z : α) (i : Nat) (h : i ≤ l.length) : (l.take i ++ List.replicate (l.length - i) z).length = l.length := by
  rw [List.length_append, List.length_take, List.length_replicate]; omega
theorem fill_last {α : Type} (l : List α) (z : α) : l.take l.length ++ List.replicate (l.length - l.length) z = l := by simp
/-- What 'sz' leaves: where it isn't below 0, the row is no longer than that. -/
theorem szIntS_ev (l : List Int) (a : Int) (ha : 0 ≤ a ∧ a ≤ 1048576) (hl : l.length ≤ maxLen) : ∃ r, laws_szIntS.f l a = some r ∧ (0 ≤ r → r = a - l.length) ∧ (r < 0 → a < l.length) := by
  simp only [maxLen] at hl
  unfold laws_szIntS.f
  rw [w64 (by omega) (by omega)]
  by_cases h : a - (l.length : Int) < 0
  · exact ⟨-1, by rw [if_pos h], fun h2 => by omega, fun _ => by omega⟩
  · exact ⟨a - (l.length : Int), by rw [if_neg h], fun _ => rfl, fun h2 => by omega⟩
theorem toIntS_ev (l : List Int) (hl : l.length ≤ 1048576) : ∃ K, ∀ k, K ≤ k → laws_toIntS.f k l = some l := by
  have h := ev_loop (F := fun k i => laws_toIntS.l0 k l (l.take i ++ List.replicate (l.length - i) 0) (i : Int)) (n := l.length) (res := fun _ => l)
    (ev_suc 0 fun k _ => by simp only [laws_toIntS.l0]; rw [if_neg (by omega), fill_last])
    (fun i hi K hK => ev_suc K fun k hk => by
      simp only [laws_toIntS.l0]
      rw [if_pos (by omega), if_pos (by omega), if_pos (by rw [fill_length l 0 i (by omega)]; omega), Int.toNat_natCast, rd_nat l i hi, fill_step l 0 i hi, w64s (by omega)]
      exact hK k hk) 0 (Nat.zero_le _)
  obtain ⟨K, h⟩ := h
  refine ⟨K, fun k hk => ?_⟩
  unfold laws_toIntS.f
  rw [if_pos (by omega), if_pos (by omega), Int.toNat_natCast]
  simpa using h k hk
theorem eqIntS_ev (l : List Int) (hl : l.length ≤ 1048576) : ∃ K, ∀ k, K ≤ k → laws_eqIntS.f k l l = some true :=
  ⟨l.length + 1, fun k hk => eqIntS_self l (by omega) k (by omega)⟩
theorem l1All_ev (lo hi : Int) (l : List Int) (hl : l.length ≤ 1048576) : ∃ K, ∀ k, K ≤ k → spec_l1All.f k l lo hi = some (l.all (inr lo hi)) :=
  ⟨l.length + 1, fun k hk => l1All_eq lo hi l (by omega) k (by omega)⟩

theorem szTerrain_ev (x y : Int) (l : List Int) (s u d t : Int) (a : Int) (ha : 0 ≤ a ∧ a ≤ 1048576) (hl : l.length ≤ maxLen) : ∃ r, laws_szTerrain.f x y l s u d t a = some r ∧ (0 ≤ r → (l.length : Int) ≤ a) := by
  unfold laws_szTerrain.f
  obtain ⟨r1, h1, h2, h3⟩ := szIntS_ev l a ha hl
  rw [h1]
  simp only [Option.bind_some]
  by_cases n1 : r1 < 0
  · exact ⟨-1, by rw [if_pos n1], fun h => by omega⟩
  · exact ⟨r1, by rw [if_neg n1], fun h => by have := h2 h; omega⟩
theorem toTerrain_ev (x y : Int) (l : List Int) (s u d t : Int) (hl : l.length ≤ 1048576) : ∃ K, ∀ k, K ≤ k → laws_toTerrain.f k x y l s u d t = some (x, y, l, s, u, d, t) := by
  obtain ⟨K1, h1⟩ := toIntS_ev l hl
  exact ⟨K1, fun k hk => by simp (disch := omega) only [laws_toTerrain.f, h1, Option.bind_some]⟩
theorem eqTerrain_ev (x y : Int) (l : List Int) (s u d t : Int) (hl : l.length ≤ 1048576) : ∃ K, ∀ k, K ≤ k → laws_eqTerrain.f k x y l s u d t x y l s u d t = some true := by
  obtain ⟨K1, h1⟩ := eqIntS_ev l hl
  exact ⟨K1, fun k hk => by simp (disch := omega) only [laws_eqTerrain.f, h1, Option.bind_some, if_true]⟩
def terrOk (x y : Int) (l : List Int) (s u d t : Int) : Bool := inr 1 8 x && (inr 1 6 y && (decide ((l.length : Int) = x * y) && (l.all (inr 0 200) && (inr 0 200 s && [u, d, t].all (inr 0 100)))))
structure Terr (X Y : Int) (H : List Int) (S U D R : Int) : Prop where
  x : 1 ≤ X ∧ X ≤ 8
  y : 1 ≤ Y ∧ Y ≤ 6
  len : (H.length : Int) = X * Y
  all : ∀ h ∈ H, 0 ≤ h ∧ h ≤ 200
  s : 0 ≤ S ∧ S ≤ 200
  u : 0 ≤ U ∧ U ≤ 100
  d : 0 ≤ D ∧ D ≤ 100
  t : 0 ≤ R ∧ R ≤ 100
theorem terrOk_iff (x y : Int) (l : List Int) (s u d t : Int) : terrOk x y l s u d t = true ↔ Terr x y l s u d t := by
  simp only [terrOk, Bool.and_eq_true, inr_iff, decide_eq_true_eq, List.all_eq_true, List.mem_cons, List.not_mem_nil, or_false]
  constructor
  · rintro ⟨h1, h2, h3, h4, h5, h6⟩
    exact ⟨h1, h2, h3, h4, h5, h6 u (.inl rfl), h6 d (.inr (.inl rfl)), h6 t (.inr (.inr rfl))⟩
  · rintro ⟨h1, h2, h3, h4, h5, h6, h7, h8⟩
    refine ⟨h1, h2, h3, h4, h5, ?_⟩
    rintro z (rfl | rfl | rfl)
    · exact h6
    · exact h7
    · exact h8
theorem xy_bounds {x y : Int} (hx : 1 ≤ x ∧ x ≤ 8) (hy : 1 ≤ y ∧ y ≤ 6) : 1 ≤ x * y ∧ x * y ≤ 48 := by
  have h1 : 1 * 1 ≤ x * y := Int.mul_le_mul hx.1 hy.1 (by omega) (by omega)
  have h2 : x * y ≤ 8 * 6 := Int.mul_le_mul hx.2 hy.2 (by omega) (by omega)
  omega
theorem roGood_ev (x y : Int) (l : List Int) (s u d t : Int) (hl : l.length ≤ 1048576) : ∃ K, ∀ k, K ≤ k → spec_roGood.f k x y l s u d t = some (terrOk x y l s u d t) := by
  obtain ⟨K1, h1⟩ := l1All_ev 0 200 l hl
  refine ⟨K1 + 10, fun k hk => ?_⟩
  have h2 := l1All_eq 0 100 [u, d, t] (by simp) k (by simp; omega)
  unfold spec_roGood.f terrOk
  simp only [l1In_eq, Option.bind_some, h1 k (by omega), h2]
  by_cases hx : inr 1 8 x = true
  · by_cases hy : inr 1 6 y = true
    · have hb := xy_bounds ((inr_iff _ _ _).1 hx) ((inr_iff _ _ _).1 hy)
      rw [if_pos hx, if_pos hy, hx, hy, w64 (x := x * y) (by omega) (by omega)]
      by_cases h3 : (l.length : Int) = x * y
      · rw [if_pos h3, decide_eq_true h3]
        cases l.all (inr 0 200) <;> cases inr 0 200 s <;> simp
      · rw [if_neg h3, decide_eq_false h3]; rfl
    · rw [if_pos hx, if_neg hy, hx, Bool.eq_false_iff.mpr hy]; rfl
  · rw [if_neg hx, Bool.eq_false_iff.mpr hx]; rfl
theorem isTerrain_l1 (l : List Int) (hl : l.length ≤ 1048576) : ∃ K, ∀ k, K ≤ k → impl_IsTerrain.l1 k l (l.length : Int) 0 = some (l.all (inr 0 100)) := by
  have h := ev_loop (F := fun k i => impl_IsTerrain.l1 k l (l.length : Int) (i : Int)) (n := l.length) (res := fun i => (l.drop i).all (inr 0 100))
    (ev_suc 0 fun k _ => by
      simp only [impl_IsTerrain.l1]
      rw [if_neg (by omega), List.drop_of_length_le (Nat.le_refl _)]
      rfl)
    (fun j hj K hK => ev_suc K fun k hk => by
      simp only [impl_IsTerrain.l1]
      rw [if_pos (by omega), if_pos (by omega), if_pos (by omega), rd_nat l j hj, List.drop_eq_getElem_cons hj, List.all_cons]
      by_cases h1 : l[j] < 0
      · rw [if_pos h1, (inr_false _ _ _).2 (by omega)]; rfl
      · rw [if_neg h1]
        by_cases h2 : l[j] > 100
        · rw [if_pos h2, (inr_false _ _ _).2 (by omega)]; rfl
        · rw [if_neg h2, (inr_iff _ _ _).2 (by omega), w64s (by omega), hK k hk]; rfl) 0 (Nat.zero_le _)
  exact h
theorem implIsTerrain_ev (x y : Int) (l : List Int) (s u d t : Int) (hl : l.length ≤ 1048576) : ∃ K, ∀ k, K ≤ k → impl_IsTerrain.f k x y l s u d t = some (terrOk x y l s u d t) := by
  obtain ⟨K1, h1⟩ := isTerrain_l1 [u, d, t] (by simp)
  have h := ev_loop (F := fun k i => impl_IsTerrain.l0 k l (l.length : Int) (i : Int) x y l s u d t) (n := l.length) (res := fun i => (l.drop i).all (inr 0 200) && [u, d, t].all (inr 0 100))
    (ev_suc K1 fun k hk => by
      simp only [impl_IsTerrain.l0]
      rw [if_neg (by omega), List.drop_of_length_le (Nat.le_refl _)]
      simp only [Option.bind_some]
      rw [h1 k hk]
      rfl)
    (fun j hj K hK => ev_suc K fun k hk => by
      simp only [impl_IsTerrain.l0]
      rw [if_pos (by omega), if_pos (by omega), if_pos (by omega), rd_nat l j hj, List.drop_eq_getElem_cons hj, List.all_cons]
      by_cases h1 : l[j] < 0
      · rw [if_pos h1, (inr_false _ _ _).2 (by omega)]; rfl
      · rw [if_neg h1]
        by_cases h2 : l[j] > 200
        · rw [if_pos h2, (inr_false _ _ _).2 (by omega)]; rfl
        · rw [if_neg h2, (inr_iff _ _ _).2 (by omega), w64s (by omega), hK k hk]; rfl) 0 (Nat.zero_le _)
  obtain ⟨K, h⟩ := h
  refine ev_suc K fun k hk => ?_
  have h := h k hk
  have hj : ∀ b, impl_IsTerrain.j0 (k + 1) b x y l s u d t = some (!b && (l.all (inr 0 200) && [u, d, t].all (inr 0 100))) := by
    intro b
    simp only [impl_IsTerrain.j0]
    cases b
    · rw [if_neg (by simp)]
      simpa using h
    · rw [if_pos rfl]; rfl
  unfold impl_IsTerrain.f terrOk
  simp only [hj]
  by_cases h1 : x < 1
  · rw [if_pos h1, (inr_false 1 8 x).2 (by omega)]; rfl
  · rw [if_neg h1]
    by_cases h2 : x > 8
    · rw [if_pos h2, (inr_false 1 8 x).2 (by omega)]; rfl
    · rw [if_neg h2, (inr_iff 1 8 x).2 (by omega)]
      by_cases h3 : y < 1
      · rw [if_pos h3, (inr_false 1 6 y).2 (by omega)]; rfl
      · rw [if_neg h3]
        by_cases h4 : y > 6
        · rw [if_pos h4, (inr_false 1 6 y).2 (by omega)]; rfl
        · have hb := xy_bounds (x := x) (y := y) (by omega) (by omega)
          rw [if_neg h4, (inr_iff 1 6 y).2 (by omega), w64 (x := x * y) (by omega) (by omega)]
          by_cases h5 : (l.length : Int) = x * y
          · rw [if_pos h5, decide_eq_true h5]
            by_cases h6 : s < 0
            · rw [if_pos h6, (inr_false 0 200 s).2 (by omega)]; simp
            · rw [if_neg h6]
              by_cases h7 : s > 200
              · rw [decide_eq_true h7, (inr_false 0 200 s).2 (by omega)]; simp
              · rw [decide_eq_false h7, (inr_iff 0 200 s).2 (by omega)]; simp
          · rw [if_neg h5, decide_eq_false h5]; rfl
/-- Bytes, as a string. -/
def BB (l : List UInt8) : ByteArray := ⟨l.toArray⟩
theorem BB_list (l : List UInt8) : (BB l).data.toList = l := by simp [BB]
theorem BB_size (l : List UInt8) : (BB l).size = l.length := by simp [BB, ByteArray.size]
theorem BB_append (a b : List UInt8) : BB a ++ BB b = BB (a ++ b) := by
  apply ByteArray.ext
  simp [BB]
/-- A height's numeral. -/
def nm (n : Int) : List UInt8 := Lib.itoa n
theorem nm_fin : ∀ n : Fin 201, spec_l1Num.f 4 (n.val : Int) = some (BB (nm (n.val : Int))) ∧ (nm (n.val : Int)).length ≤ 3 := by decide +kernel
theorem l1Num_up (n : Int) (r : ByteArray) (h : spec_l1Num.f 4 n = some r) : ∀ e, spec_l1Num.f (4 + e) n = some r := by
  intro e
  induction e with
  | zero => exact h
  | succ e ih => exact spec_l1Num.mono n _ _ ih
theorem l1Num_ev {n : Int} (h0 : 0 ≤ n) (h1 : n ≤ 200) (k : Nat) (hk : 4 ≤ k) : spec_l1Num.f k n = some (BB (nm n)) := by
  have h := (nm_fin ⟨n.toNat, by omega⟩).1
  have e : ((n.toNat : Nat) : Int) = n := by omega
  simp only [e] at h
  have := l1Num_up n _ h (k - 4)
  rwa [show 4 + (k - 4) = k by omega] at this
theorem nm_len {n : Int} (h0 : 0 ≤ n) (h1 : n ≤ 200) : (nm n).length ≤ 3 := by
  have h := (nm_fin ⟨n.toNat, by omega⟩).2
  have e : ((n.toNat : Nat) : Int) = n := by omega
  simpa only [e] using h
/-- A row of heights, with blanks between. -/
def rowT (hs : List Int) : List UInt8 := Lib.join (hs.map nm) [32]
theorem rowT_snoc (hs : List Int) (h : Int) (hne : hs ≠ []) : rowT (hs ++ [h]) = rowT hs ++ [32] ++ nm h := by
  unfold rowT
  cases hs with
  | nil => exact absurd rfl hne
  | cons x r =>
    rw [List.map_append, List.map_cons, List.cons_append, Lib.join_cons, Lib.join_cons]
    simp [Lib.joinTail]
theorem rowT_one (h : Int) : rowT [h] = nm h := Lib.join_one _ _
theorem rowT_len : ∀ (n : Nat) (hs : List Int), hs.length = n → (∀ h ∈ hs, 0 ≤ h ∧ h ≤ 200) → (rowT hs).length ≤ 4 * n := by
  intro n
  induction n with
  | zero => intro hs h _; obtain rfl := List.eq_nil_of_length_eq_zero h; simp [rowT, Lib.join_nil]
  | succ n ih =>
    intro hs h hb
    obtain ⟨l, z, rfl⟩ : ∃ l z, hs = l ++ [z] := ⟨hs.dropLast, hs.getLast (by intro e; rw [e] at h; simp at h), (List.dropLast_concat_getLast _).symm⟩
    have hl : l.length = n := by simpa using h
    have hz := hb z (by simp)
    have hn := nm_len hz.1 hz.2
    rcases List.eq_nil_or_concat l with rfl | ⟨_, _, _⟩
    · rw [List.nil_append, rowT_one]; omega
    · have hne : l ≠ [] := by intro e; simp_all
      rw [rowT_snoc l z hne]
      have := ih l hl (fun h hh => hb h (by simp [hh]))
      simp only [List.length_append, List.length_cons, List.length_nil]
      omega
theorem rd_at (l : List Int) (i : Nat) (h : i < l.length) : rd l (i : Int) = l[i] := by simp [rd, List.getD_eq_getElem?_getD, h]
theorem numbers_ev (hs : List Int) (hl : hs.length ≤ 8) (hb : ∀ h ∈ hs, 0 ≤ h ∧ h ≤ 200) : ∃ K, ∀ k, K ≤ k → impl_numbersText.f k hs = some (BB (rowT hs)) := by
  have main : ∀ i, i ≤ hs.length → ∃ K, ∀ k, K ≤ k → impl_numbersText.l0 k ((hs.take i).map fun h => BB (nm h)) hs (hs.length : Int) (i : Int) = some (BB (rowT hs)) := by
    refine ev_loop (F := fun k i => impl_numbersText.l0 k ((hs.take i).map fun h => BB (nm h)) hs (hs.length : Int) (i : Int)) (res := fun _ => BB (rowT hs)) ?_ ?_
    · refine ev_suc 0 fun k _ => ?_
      simp only [impl_numbersText.l0, List.take_length, Int.lt_irrefl, if_false]
      have hm : ((hs.map fun h => BB (nm h)).map (·.data.toList)) = hs.map nm := by simp [BB_list]
      have h32 : (⟨#[32]⟩ : ByteArray).data.toList = [32] := rfl
      have hlen := rowT_len _ hs rfl hb
      unfold rowT at hlen
      unfold strings_Join.f
      rw [hm, h32, if_pos ⟨by simp; omega, by omega⟩]
      rfl
    · intro i hi K hK
      refine ev_suc K fun k hk => ?_
      have hz := hb hs[i] (List.getElem_mem hi)
      have hlt : ((i : Nat) : Int) < (hs.length : Int) := by omega
      simp only [impl_numbersText.l0, hlt, if_true, rd_at hs i hi]
      rw [if_pos (by omega)]
      unfold strconv_Itoa.f
      rw [if_pos ⟨by omega, by omega⟩]
      simp only [Option.bind_some]
      rw [if_pos (by simp; omega), w64 (by omega) (by omega)]
      have e := hK k hk
      rw [List.take_succ_eq_append_getElem hi, List.map_append] at e
      exact e
  obtain ⟨K, h⟩ := main 0 (Nat.zero_le _)
  refine ⟨K, fun k hk => ?_⟩
  have := h k hk
  simpa [impl_numbersText.f] using this
def rowAt (l : List Int) (X j : Nat) : List Int := (l.drop (j * X)).take X
/-- The lines below line j. -/
def tailT (l : List Int) (X : Nat) : Nat → List UInt8
  | 0 => []
  | j + 1 => rowT (rowAt l X j) ++ [10] ++ tailT l X j
theorem idx1 {m i : Nat} (hm : m ≤ 48) (hi : i ≤ 8) : wrap64 (wrap64 (m : Int) + (i : Int)) = ((m + i : Nat) : Int) := by
  rw [w64 (x := (m : Int)) (by omega) (by omega), w64 (by omega) (by omega)]
  omega
theorem idx0 {j X : Nat} (h : j * X ≤ 48) : wrap64 ((j : Int) * (X : Int)) = ((j * X : Nat) : Int) := by
  rw [← Int.natCast_mul]
  generalize j * X = m at h
  exact w64 (by omega) (by omega)
theorem idx3 {j X i : Nat} (h : j * X ≤ 48) (hi : i ≤ 8) : wrap64 (wrap64 ((j : Int) * (X : Int)) + (i : Int)) = ((j * X + i : Nat) : Int) := by
  rw [← Int.natCast_mul]
  exact idx1 h hi
theorem idx4 (j : Nat) (h : j ≤ 48) : wrap64 ((j : Int) - 1) = (j : Int) - 1 := w64 (by omega) (by omega)
theorem idx2 {j X : Nat} (hm : j * X + X ≤ 48) (hj : j ≤ 6) : wrap64 (wrap64 ((j : Int) + 1) * (X : Int)) = ((j * X + X : Nat) : Int) := by
  have e : ((j : Int) + 1) = ((j + 1 : Nat) : Int) := by omega
  rw [w64 (x := (j : Int) + 1) (by omega) (by omega), e, ← Int.natCast_mul, Nat.succ_mul]
  generalize j * X + X = m at hm
  exact w64 (by omega) (by omega)
theorem small3 {a b c d : Nat} (ha : a ≤ 400) (hb : b ≤ 32) (hc : c ≤ 40) (hd : d ≤ 40) : a + b + c + d ≤ 9223372036854775807 := by omega
theorem row_end {X Y : Nat} {l : List Int} (hX : 1 ≤ X ∧ X ≤ 8) (hY : Y ≤ 6) (hl : l.length = X * Y) (hb : ∀ h ∈ l, 0 ≤ h ∧ h ≤ 200) {j : Nat} (hj : j < Y) : j * X + X ≤ l.length := by
  have h := Nat.mul_le_mul_right X (show j + 1 ≤ Y from hj)
  rw [Nat.succ_mul] at h
  rw [hl, Nat.mul_comm X Y]
  exact h
theorem row_small {X Y : Nat} {l : List Int} (hX : 1 ≤ X ∧ X ≤ 8) (hY : Y ≤ 6) (hl : l.length = X * Y) (hb : ∀ h ∈ l, 0 ≤ h ∧ h ≤ 200) {j : Nat} (hj : j < Y) : j * X ≤ 48 ∧ l.length ≤ 48 := by
  have h1 := Nat.mul_le_mul (show j ≤ 6 by omega) hX.2
  have h2 := Nat.mul_le_mul hX.2 hY
  omega
theorem row_len {X Y : Nat} {l : List Int} (hX : 1 ≤ X ∧ X ≤ 8) (hY : Y ≤ 6) (hl : l.length = X * Y) (hb : ∀ h ∈ l, 0 ≤ h ∧ h ≤ 200) {j : Nat} (hj : j < Y) : (rowAt l X j).length = X := by
  have := row_end hX hY hl hb hj
  unfold rowAt
  rw [List.length_take, List.length_drop]
  omega
theorem row_mem {X Y : Nat} {l : List Int} (hX : 1 ≤ X ∧ X ≤ 8) (hY : Y ≤ 6) (hl : l.length = X * Y) (hb : ∀ h ∈ l, 0 ≤ h ∧ h ≤ 200) {j : Nat} {h : Int} (hh : h ∈ rowAt l X j) : 0 ≤ h ∧ h ≤ 200 := hb h (List.mem_of_mem_drop (List.mem_of_mem_take hh))
theorem row_get {X Y : Nat} {l : List Int} (hX : 1 ≤ X ∧ X ≤ 8) (hY : Y ≤ 6) (hl : l.length = X * Y) (hb : ∀ h ∈ l, 0 ≤ h ∧ h ≤ 200) {j i : Nat} (hj : j < Y) (hi : i < X) : rd l ((j * X + i : Nat) : Int) = (rowAt l X j)[i]'(by rw [row_len hX hY hl hb hj]; exact hi) := by
  have h := row_end hX hY hl hb hj
  rw [rd_at l (j * X + i) (by omega)]
  simp [rowAt]
set_option maxHeartbeats 4000000 in
theorem specRow_ev {X Y : Nat} {l : List Int} (hX : 1 ≤ X ∧ X ≤ 8) (hY : Y ≤ 6) (hl : l.length = X * Y) (hb : ∀ h ∈ l, 0 ≤ h ∧ h ≤ 200) (s u d t : Int) {j : Nat} (hj : j < Y) (p : List UInt8) (hp : p.length ≤ 400) (r : ByteArray × Bool)
    (hn : ∃ K, ∀ k, K ≤ k → spec_HeightsText.l0 k (BB (p ++ rowT (rowAt l X j) ++ [10])) ((j : Int) - 1) (X : Int) (Y : Int) l s u d t = some r) :
    ∀ i, i ≤ X → ∃ K, ∀ k, K ≤ k → spec_HeightsText.l1 k (BB (p ++ rowT ((rowAt l X j).take i))) (j : Int) (i : Int) (X : Int) (Y : Int) l s u d t = some r := by
  have hlen := row_len hX hY hl hb hj
  have hsm := row_small hX hY hl hb hj
  have hend := row_end hX hY hl hb hj
  have rlen : ∀ i, (rowT ((rowAt l X j).take i)).length ≤ 32 := fun i => by
    have h := rowT_len _ ((rowAt l X j).take i) rfl (fun h hh => row_mem hX hY hl hb (List.mem_of_mem_take hh))
    rw [List.length_take] at h
    omega
  refine ev_loop (F := fun k i => spec_HeightsText.l1 k (BB (p ++ rowT ((rowAt l X j).take i))) (j : Int) (i : Int) (X : Int) (Y : Int) l s u d t) (res := fun _ => r) ?_ ?_
  · obtain ⟨K, hK⟩ := hn
    refine ev_suc K fun k hk => ?_
    have h1 := rlen X
    have e : (rowAt l X j).take X = rowAt l X j := List.take_of_length_le (by omega)
    have h10 : (⟨#[10]⟩ : ByteArray) = BB [10] := rfl
    simp only [spec_HeightsText.l1, Int.lt_irrefl, if_false]
    rw [e] at h1 ⊢
    rw [if_pos (by rw [BB_size, List.length_append]; omega), idx4 j (by omega), h10, BB_append]
    exact hK k hk
  · intro i hi K hK
    refine ev_suc (K + 4) fun k hk => ?_
    have h1 := rlen i
    have hz := row_mem hX hY hl hb (j := j) (List.getElem_mem (l := rowAt l X j) (n := i) (by omega))
    have hnl := nm_len hz.1 hz.2
    have hlt : ((i : Nat) : Int) < (X : Int) := by omega
    have i8 : i ≤ 8 := by omega
    have i9 : i ≤ 9000000000000000000 := by omega
    have c1 : (0 : Int) ≤ ((j * X + i : Nat) : Int) := by omega
    have c2 : ((j * X + i : Nat) : Int) < (l.length : Int) := by omega
    have en := l1Num_ev hz.1 hz.2 k (by omega)
    have ek := hK k (by omega)
    rw [List.take_succ_eq_append_getElem (by omega)] at ek
    simp only [spec_HeightsText.l1, hlt, if_true, idx3 hsm.1 i8, w64s i9, c1, c2, row_get hX hY hl hb hj hi, en, Option.bind_some]
    rcases Nat.eq_zero_or_pos i with rfl | hpos
    · rw [if_neg (by omega), if_pos (by rw [BB_size, BB_size, List.length_append]; omega), BB_append]
      have e0 : rowT ((rowAt l X j).take 0) = [] := rfl
      rw [e0, List.append_nil]
      rw [List.take_zero, List.nil_append, rowT_one] at ek
      exact ek
    · rw [if_pos (by omega), if_pos (by rw [BB_size, List.length_append]; omega), show (⟨#[32]⟩ : ByteArray) = BB [32] from rfl, BB_append, if_pos (by rw [BB_size, BB_size, List.length_append, List.length_append]; simp; omega), BB_append]
      rw [rowT_snoc _ _ (by intro e; have h0 := congrArg List.length e; rw [List.length_take, List.length_nil, Nat.min_eq_left (by omega)] at h0; omega)] at ek
      simpa [List.append_assoc] using ek
set_option maxHeartbeats 4000000 in
theorem both_ev {X Y : Nat} {l : List Int} (hX : 1 ≤ X ∧ X ≤ 8) (hY : Y ≤ 6) (hl : l.length = X * Y) (hb : ∀ h ∈ l, 0 ≤ h ∧ h ≤ 200) (s u d t : Int) : ∀ j, j ≤ Y → ∀ p : List UInt8, p.length + 33 * j ≤ 400 →
    (∃ K, ∀ k, K ≤ k → spec_HeightsText.l0 k (BB p) ((j : Int) - 1) (X : Int) (Y : Int) l s u d t = some (BB (p ++ tailT l X j), true)) ∧
    (∃ K, ∀ k, K ≤ k → impl_HeightsText.l0 k (BB p) ((j : Int) - 1) (X : Int) (Y : Int) l s u d t = some (BB (p ++ tailT l X j), true)) := by
  intro j
  induction j with
  | zero =>
    intro _ p _
    refine ⟨ev_suc 0 fun k _ => ?_, ev_suc 0 fun k _ => ?_⟩
    · simp [spec_HeightsText.l0, tailT]
    · simp [impl_HeightsText.l0, tailT]
  | succ j ih =>
    intro hj p hp
    have hj' : j < Y := by omega
    have hlen := row_len hX hY hl hb hj'
    have hsm := row_small hX hY hl hb hj'
    have hend := row_end hX hY hl hb hj'
    have h1 := rowT_len _ (rowAt l X j) rfl (fun h hh => row_mem hX hY hl hb hh)
    rw [hlen] at h1
    obtain ⟨e1, e2⟩ := ih (by omega) (p ++ rowT (rowAt l X j) ++ [10]) (by simp only [List.length_append, List.length_cons, List.length_nil]; omega)
    have et : p ++ rowT (rowAt l X j) ++ [10] ++ tailT l X j = p ++ tailT l X (j + 1) := by simp [tailT, List.append_assoc]
    rw [et] at e1 e2
    have ec : ((j + 1 : Nat) : Int) - 1 = (j : Int) := by omega
    have c0 : (j : Int) ≥ 0 := by omega
    refine ⟨?_, ?_⟩
    · obtain ⟨K, hK⟩ := specRow_ev hX hY hl hb s u d t hj' p (by omega) _ e1 0 (Nat.zero_le _)
      refine ev_suc K fun k hk => ?_
      have h := hK k hk
      have e0 : rowT ((rowAt l X j).take 0) = [] := rfl
      rw [e0, List.append_nil] at h
      rw [ec]
      simp only [spec_HeightsText.l0, c0, if_true]
      exact h
    · obtain ⟨K, hK⟩ := e2
      obtain ⟨K2, hn⟩ := numbers_ev (rowAt l X j) (by omega) (fun h hh => row_mem hX hY hl hb hh)
      refine ev_suc (K + K2) fun k hk => ?_
      have b1 : j * X + X ≤ 48 := by omega
      have b2 : j ≤ 6 := by omega
      have b3 : j ≤ 48 := by omega
      have erow : (l.take (j * X + X)).drop (j * X) = rowAt l X j := by
        unfold rowAt
        rw [List.drop_take]
        congr 1
        omega
      have a1 : (0 : Int) ≤ ((j * X : Nat) : Int) := by omega
      have a2 : ((j * X : Nat) : Int) ≤ ((j * X + X : Nat) : Int) := by omega
      have a3 : ((j * X + X : Nat) : Int) ≤ (l.length : Int) := by omega
      rw [ec]
      simp only [impl_HeightsText.l0, c0, if_true, idx0 hsm.1, idx2 b1 b2, a1, a2, a3, Int.toNat_natCast, erow, hn k (by omega), Option.bind_some]
      rw [if_pos (by rw [BB_size]; omega), show (⟨#[10]⟩ : ByteArray) = BB [10] from rfl, BB_append, if_pos (by rw [BB_size, BB_size, List.length_append]; simp; omega), BB_append, idx4 j b3, ← List.append_assoc]
      exact hK k (by omega)
theorem heightsText_both (x y : Int) (l : List Int) (s u d t : Int) (hl : l.length ≤ 1048576) : ∃ r, (∃ K, ∀ k, K ≤ k → spec_HeightsText.f k x y l s u d t = some r) ∧ ∃ K, ∀ k, K ≤ k → impl_HeightsText.f k x y l s u d t = some r := by
  obtain ⟨K1, h1⟩ := roGood_ev x y l s u d t hl
  obtain ⟨K2, h2⟩ := implIsTerrain_ev x y l s u d t hl
  cases g : terrOk x y l s u d t with
  | false =>
    refine ⟨(⟨#[]⟩, false), ⟨K1, fun k hk => ?_⟩, ⟨K2, fun k hk => ?_⟩⟩
    · simp [spec_HeightsText.f, h1 k hk, g]
    · simp [impl_HeightsText.f, h2 k hk, g]
  | true =>
    have T := (terrOk_iff _ _ _ _ _ _ _).1 g
    obtain ⟨X, rfl⟩ := Int.eq_ofNat_of_zero_le (show 0 ≤ x by have := T.x; omega)
    obtain ⟨Y, rfl⟩ := Int.eq_ofNat_of_zero_le (show 0 ≤ y by have := T.y; omega)
    have hx := T.x; have hy := T.y; have hlen := T.len
    rw [← Int.natCast_mul] at hlen
    obtain ⟨⟨K3, e1⟩, K4, e2⟩ := both_ev (X := X) (Y := Y) (l := l) ⟨by omega, by omega⟩ (by omega) (by omega) T.all s u d t Y (Nat.le_refl _) [] (by simp; omega)
    have ew : wrap64 ((Y : Int) - 1) = (Y : Int) - 1 := w64 (by omega) (by omega)
    refine ⟨(BB ([] ++ tailT l X Y), true), ⟨K1 + K3, fun k hk => ?_⟩, ⟨K2 + K4, fun k hk => ?_⟩⟩
    · simp only [spec_HeightsText.f, h1 k (by omega), g, Option.bind_some, if_true, ew]
      exact e1 k (by omega)
    · simp only [impl_HeightsText.f, h2 k (by omega), g, Option.bind_some, if_true, ew]
      exact e2 k (by omega)
theorem FnExactHeightsText (x y : Int) (l : List Int) (s u d t : Int) (_ : (Lit.int .i64 x).wf = true) (_ : (Lit.int .i64 y).wf = true) (hl : l.length ≤ maxLen) (_ : ∀ z ∈ l, (Lit.int .i64 z).wf = true) (_ : (Lit.int .i64 s).wf = true) (_ : (Lit.int .i64 u).wf = true) (_ : (Lit.int .i64 d).wf = true) (_ : (Lit.int .i64 t).wf = true) : ∃ k, laws_FnExactHeightsText.f k x y l s u d t = some true := by
  obtain ⟨z, h0, hs⟩ := szTerrain_ev x y l s u d t 1048576 (by omega) hl
  by_cases hneg : z < 0
  · refine ⟨0, ?_⟩
    simp only [laws_FnExactHeightsText.f, h0, Option.bind_some, hneg, if_true]
  · have hs2 := hs (by omega)
    obtain ⟨K1, h1⟩ := toTerrain_ev x y l s u d t (by omega)
    obtain ⟨r, ⟨K2, h2⟩, K3, h3⟩ := heightsText_both x y l s u d t (by omega)
    obtain ⟨K4, h4⟩ := eqTerrain_ev x y l s u d t (by omega)
    refine ⟨K1 + K2 + K3 + K4 + 2, ?_⟩
    simp (disch := omega) only [laws_FnExactHeightsText.f, h0, h1, h2, h3, Option.bind_some, hneg, if_true, if_false, bne_self_eq_false, Bool.false_eq_true]
    simp (disch := omega) only [laws_FnExactHeightsText.j0, h1, h4, Option.bind_some, if_true, if_false, Bool.false_eq_true]

end Go.Proofs.YtbgjhdhdfdfpkaaDoor.Pure
