/- THE PURE SIDE OF FnExactTakeBlend: the printed functions of the reference and of the program give the same results. Plain Lean: no memory and no Go. -/
import Derived.Test.YtcinecbfkeefaaaPFnExactTakeBlendx5
import Derived.OpenShut
namespace Go.Proofs.Ytcinecbfkeefaaa.Pure
open Go.RowKit Go.Proofs.Ytcinecbfkeefaaa.PFnExactTakeBlend Go.Proofs.YtcinecbfkeefaaaW.PrintWords Go.Proofs.YtcinecbfkeefaaaW.PrintLast Go.Proofs.YtcinecbfkeefaaaW.PrintMore
set_option linter.unusedVariables false
set_option linter.unusedSimpArgs false

theorem w64 {x : Int} (h1 : -9223372036854775808 ≤ x) (h2 : x ≤ 9223372036854775807) : wrap64 x = x := by unfold wrap64; omega
theorem w64s {i : Nat} (h : i ≤ 9000000000000000000) : wrap64 ((i : Int) + 1) = ((i + 1 : Nat) : Int) := by rw [w64 (by omega) (by omega)]; omega
theorem rd_nat (l : List Int) (i : Nat) (h : i < l.length) : rd l (i : Int) = l[i] := by simp [rd, List.getD_eq_getElem?_getD, h]
theorem wf64 {x : Int} (h : (Lit.int .i64 x).wf = true) : -9223372036854775808 ≤ x ∧ x ≤ 9223372036854775807 := by
  have := bounds_i64 h
  omega
def inr (lo hi x : Int) : Bool := decide (lo ≤ x) && decide (x ≤ hi)
theorem inr_iff (lo hi x : Int) : inr lo hi x = true ↔ lo ≤ x ∧ x ≤ hi := by simp [inr]
theorem inr_false (lo hi x : Int) : inr lo hi x = false ↔ ¬ (lo ≤ x ∧ x ≤ hi) := by rw [← inr_iff, Bool.not_eq_true]
theorem mx_of_lt {a b : Int} (h : a < b) : mx a b = b := if_pos h
theorem mx_of_ge {a b : Int} (h : b ≤ a) : mx a b = a := if_neg (by omega)
theorem mx_spec (a b : Int) : a ≤ mx a b ∧ b ≤ mx a b ∧ (mx a b = a ∨ mx a b = b) := by unfold mx; split <;> omega
theorem l1In_eq (a b c : Int) : spec_l1In.f a b c = some (inr b c a) := by
  unfold spec_l1In.f inr
  by_cases h : a ≥ b
  · rw [if_pos h]; simp [show b ≤ a from h]
  · rw [if_neg h]; simp [show ¬ b ≤ a from h]
theorem l1All_l0 (lo hi : Int) (l : List Int) (hl : l.length ≤ 9000000000000000000) : ∀ (d k i : Nat), i + d = l.length → d < k → spec_l1All.l0 k lo hi l (l.length : Int) (i : Int) = some ((l.drop i).all (inr lo hi)) := by
  intro d
  induction d with
  | zero =>
    intro k i hi' hk
    obtain ⟨k, rfl⟩ : ∃ m, k = m + 1 := ⟨k - 1, by omega⟩
    simp only [spec_l1All.l0]
    rw [if_neg (by omega), List.drop_of_length_le (by omega)]; rfl
  | succ d ih =>
    intro k i hi' hk
    obtain ⟨k, rfl⟩ : ∃ m, k = m + 1 := ⟨k - 1, by omega⟩
    have hlt : i < l.length := by omega
    simp only [spec_l1All.l0]
    rw [if_pos (by omega), if_pos (by omega), if_pos (by omega), l1In_eq, List.drop_eq_getElem_cons hlt, List.all_cons, rd_nat l i hlt, w64s (by omega), ih k (i + 1) (by omega) (by omega)]
    simp only [Option.bind_some]
    by_cases h : inr lo hi l[i] = true
    · rw [if_pos h, h, Bool.true_and]
    · rw [if_neg h, Bool.eq_false_iff.mpr h, Bool.false_and]
theorem l1All_eq (lo hi : Int) (l : List Int) (hl : l.length ≤ 9000000000000000000) (k : Nat) (hk : l.length < k) : spec_l1All.f k l lo hi = some (l.all (inr lo hi)) := by
  unfold spec_l1All.f
  exact l1All_l0 lo hi l hl l.length k 0 (by omega) hk
theorem eqIntS_l0 (l : List Int) (hl : l.length ≤ 9000000000000000000) : ∀ (d k i : Nat), i + d = l.length → d < k → laws_eqIntS.l0 k l l (i : Int) = some true := by
  intro d
  induction d with
  | zero =>
    intro k i hi' hk
    obtain ⟨k, rfl⟩ : ∃ m, k = m + 1 := ⟨k - 1, by omega⟩
    simp only [laws_eqIntS.l0]
    rw [if_neg (by omega)]
  | succ d ih =>
    intro k i hi' hk
    obtain ⟨k, rfl⟩ : ∃ m, k = m + 1 := ⟨k - 1, by omega⟩
    simp only [laws_eqIntS.l0]
    rw [if_pos (by omega), if_pos (by omega), if_pos (by omega), if_pos trivial, w64s (by omega)]
    exact ih k (i + 1) (by omega) (by omega)
theorem eqIntS_self (l : List Int) (hl : l.length ≤ 9000000000000000000) (k : Nat) (hk : l.length < k) : laws_eqIntS.f k l l = some true := by
  unfold laws_eqIntS.f
  rw [if_pos rfl]
  exact eqIntS_l0 l hl l.length k 0 (by omega) hk
/-- What 'mark' writes: numbers in their order. -/
def ramp (a : Int) (n : Nat) : List Int := (List.range n).map fun (i : Nat) => a + (i : Int)
theorem ramp_length (a : Int) (n : Nat) : (ramp a n).length = n := by simp [ramp]
theorem ramp_succ (a : Int) (n : Nat) : ramp a (n + 1) = ramp a n ++ [a + (n : Int)] := by simp [ramp, List.range_succ]
theorem ramp_at (a : Int) (n i : Nat) (h : i < n) : rd (ramp a n) (i : Int) = a + (i : Int) := by
  rw [rd_nat _ _ (by rw [ramp_length]; exact h)]
  simp [ramp]
theorem markIntS_l0 (a : Int) (ha : 0 ≤ a ∧ a ≤ 1000000000000000000) (l : List Int) (hl : l.length ≤ 1000000000000000000) : ∀ (d k i : Nat), i + d = l.length → d < k → laws_markIntS.l0 k (ramp a i ++ l.drop i) (a + (i : Int)) (i : Int) = some (a + (l.length : Int), ramp a l.length) := by
  intro d
  induction d with
  | zero =>
    intro k i hi' hk
    obtain ⟨k, rfl⟩ : ∃ m, k = m + 1 := ⟨k - 1, by omega⟩
    obtain rfl : i = l.length := by omega
    simp only [laws_markIntS.l0]
    rw [if_neg (by simp [ramp_length]), List.drop_of_length_le (Nat.le_refl _), List.append_nil]
  | succ d ih =>
    intro k i hi' hk
    obtain ⟨k, rfl⟩ : ∃ m, k = m + 1 := ⟨k - 1, by omega⟩
    have hlt : i < l.length := by omega
    simp only [laws_markIntS.l0]
    rw [if_pos (by simp [ramp_length]; omega), if_pos (by omega), Int.toNat_natCast, List.drop_eq_getElem_cons hlt]
    rw [List.set_append_right _ _ (by rw [ramp_length]; exact Nat.le_refl _), ramp_length, Nat.sub_self, List.set_cons_zero]
    rw [w64s (by omega), w64 (by omega) (by omega)]
    have h := ih k (i + 1) (by omega) (by omega)
    rw [ramp_succ, List.append_assoc, List.singleton_append, show a + ((i + 1 : Nat) : Int) = a + (i : Int) + 1 from by omega] at h
    exact h
theorem markIntS_eq (a : Int) (ha : 0 ≤ a ∧ a ≤ 1000000000000000000) (l : List Int) (hl : l.length ≤ 1000000000000000000) (k : Nat) (hk : l.length < k) : laws_markIntS.f k l a = some (a + (l.length : Int), ramp a l.length) := by
  unfold laws_markIntS.f
  have h := markIntS_l0 a ha l hl l.length k 0 (by omega) hk
  simpa [ramp] using h
theorem ev_loop {β : Type} {F : Nat → Nat → Option β} {n : Nat} {res : Nat → β} (last : ∃ K, ∀ k, K ≤ k → F k n = some (res n)) (step : ∀ i, i < n → ∀ K, (∀ k, K ≤ k → F k (i + 1) = some (res (i + 1))) → ∃ K, ∀ k, K ≤ k → F k i = some (res i)) : ∀ i, i ≤ n → ∃ K, ∀ k, K ≤ k → F k i = some (res i) := by
  have key : ∀ d i, i + d = n → ∃ K, ∀ k, K ≤ k → F k i = some (res i) := by
    intro d
    induction d with
    | zero => intro i h; obtain rfl : i = n := by omega
              exact last
    | succ d ih =>
      intro i h
      obtain ⟨K, hK⟩ := ih (i + 1) (by omega)
      exact step i (by omega) K hK
  exact fun i h => key (n - i) i (by omega)
/-- One round more. -/
theorem ev_suc {β : Type} {g : Nat → Option β} {r : β} (K : Nat) (h : ∀ k, K ≤ k → g (k + 1) = some r) : ∃ K, ∀ k, K ≤ k → g k = some r :=
  ⟨K + 1, fun k hk => by obtain ⟨k, rfl⟩ : ∃ m, k = m + 1 := ⟨k - 1, by omega⟩; exact h k (by omega)⟩
theorem fill_step {α : Type} (l : List α) (z : α) (i : Nat) (h : i < l.length) : (l.take i ++ List.replicate (l.length - i) z).set i l[i] = l.take (i + 1) ++ List.replicate (l.length - (i + 1)) z := by
  have e : l.length - i = (l.length - (i + 1)) + 1 := by omega
  rw [List.set_append_right _ _ (by rw [List.length_take]; omega), List.length_take, Nat.min_eq_left (by omega), Nat.sub_self, e, List.replicate_succ, List.set_cons_zero, List.take_succ_eq_append_getElem h, List.append_assoc, List.singleton_append]
theorem fill_length {α : Type} (l : List α) (z : α) (i : Nat) (h : i ≤ l.length) : (l.take i ++ List.replicate (l.length - i) z).length = l.length := by
  rw [List.length_append, List.length_take, List.length_replicate]; omega
theorem fill_last {α : Type} (l : List α) (z : α) : l.take l.length ++ List.replicate (l.length - l.length) z = l := by simp
theorem toIntS_ev (l : List Int) (hl : l.length ≤ 1048576) : ∃ K, ∀ k, K ≤ k → laws_toIntS.f k l = some l := by
  have h := ev_loop (F := fun k i => laws_toIntS.l0 k l (l.take i ++ List.replicate (l.length - i) 0) (i : Int)) (n := l.length) (res := fun _ => l)
    (ev_suc 0 fun k _ => by simp only [laws_toIntS.l0]; rw [if_neg (by omega), fill_last])
    (fun i hi K hK => ev_suc K fun k hk => by
      simp only [laws_toIntS.l0]
      rw [if_pos (by omega), if_pos (by omega), if_pos (by rw [fill_length l 0 i (by omega)]; omega), Int.toNat_natCast, rd_nat l i hi, fill_step l 0 i hi, w64s (by omega)]
      exact hK k hk) 0 (Nat.zero_le _)
  obtain ⟨K, h⟩ := h
  refine ⟨K, fun k hk => ?_⟩
  unfold laws_toIntS.f
  rw [if_pos (by omega), if_pos (by omega), Int.toNat_natCast]
  simpa using h k hk
theorem eqIntS_ev (l : List Int) (hl : l.length ≤ 1048576) : ∃ K, ∀ k, K ≤ k → laws_eqIntS.f k l l = some true :=
  ⟨l.length + 1, fun k hk => eqIntS_self l (by omega) k (by omega)⟩
theorem markIntS_ev (l : List Int) (hl : l.length ≤ 1048576) (a : Int) (ha : 0 ≤ a ∧ a ≤ 1000000000000000000) : ∃ K, ∀ k, K ≤ k → laws_markIntS.f k l a = some (a + (l.length : Int), ramp a l.length) :=
  ⟨l.length + 1, fun k hk => markIntS_eq a ha l (by omega) k (by omega)⟩
theorem l1All_ev (lo hi : Int) (l : List Int) (hl : l.length ≤ 1048576) : ∃ K, ∀ k, K ≤ k → spec_l1All.f k l lo hi = some (l.all (inr lo hi)) :=
  ⟨l.length + 1, fun k hk => l1All_eq lo hi l (by omega) k (by omega)⟩

theorem rdB_nat (l : List S63) (i : Nat) (h : i < l.length) : rd_T63 l (i : Int) = l[i] := by simp [rd_T63, List.getD_eq_getElem?_getD, h]
def binOk (x : S63) : Bool := inr 0 12 x.f0 && (inr 0 1000 x.f1 && (inr 0 1000 x.f2 && inr 0 1000 x.f3))
theorem binOk_iff (x : S63) : binOk x = true ↔ (0 ≤ x.f0 ∧ x.f0 ≤ 12) ∧ (0 ≤ x.f1 ∧ x.f1 ≤ 1000) ∧ (0 ≤ x.f2 ∧ x.f2 ≤ 1000) ∧ (0 ≤ x.f3 ∧ x.f3 ≤ 1000) := by
  simp [binOk, inr]
def binsOk (l : List S63) : Bool := l.all binOk && inr 1 6 (l.length : Int)
theorem binsOk_iff (l : List S63) : binsOk l = true ↔ (∀ x ∈ l, binOk x = true) ∧ 1 ≤ l.length ∧ l.length ≤ 6 := by
  simp only [binsOk, Bool.and_eq_true, List.all_eq_true, inr_iff]
  constructor
  · rintro ⟨h1, h2, h3⟩; exact ⟨h1, by omega, by omega⟩
  · rintro ⟨h1, h2, h3⟩; exact ⟨h1, by omega, by omega⟩
theorem blBins_ev (l : List S63) (hl : l.length ≤ 1048576) : ∃ K, ∀ k, K ≤ k → spec_blBins.f k l = some (binsOk l) := by
  have h := ev_loop (F := fun k i => spec_blBins.l0 k l l (l.length : Int) (i : Int)) (n := l.length) (res := fun i => (l.drop i).all binOk && inr 1 6 (l.length : Int))
    (ev_suc 0 fun k _ => by
      simp only [spec_blBins.l0]
      rw [if_neg (by omega), l1In_eq, List.drop_of_length_le (Nat.le_refl _)]
      rfl)
    (fun i hi K hK => ev_suc (max K 10) fun k hk => by
      simp only [spec_blBins.l0]
      rw [if_pos (by omega), if_pos (by omega), if_pos (by omega), rdB_nat l i hi, l1In_eq, List.drop_eq_getElem_cons hi, List.all_cons, w64s (by omega)]
      simp only [Option.bind_some]
      by_cases h1 : inr 0 12 l[i].f0 = true
      · rw [if_pos h1, l1All_eq 0 1000 [l[i].f1, l[i].f2, l[i].f3] (by simp) k (by simp; omega)]
        simp only [Option.bind_some]
        have e : binOk l[i] = [l[i].f1, l[i].f2, l[i].f3].all (inr 0 1000) := by simp [binOk, h1]
        rw [e]
        by_cases h2 : [l[i].f1, l[i].f2, l[i].f3].all (inr 0 1000) = true
        · rw [if_pos h2, h2, Bool.true_and]
          exact hK k (by omega)
        · rw [if_neg h2, Bool.eq_false_iff.mpr h2, Bool.false_and, Bool.false_and]
      · rw [if_neg h1]
        have e : binOk l[i] = false := by simp [binOk, Bool.eq_false_iff.mpr h1]
        rw [e, Bool.false_and, Bool.false_and]) 0 (Nat.zero_le _)
  exact h
theorem areBins_ev (l : List S63) (hl : l.length ≤ 1048576) : ∃ K, ∀ k, K ≤ k → impl_AreBins.f k l = some (binsOk l) := by
  have h := ev_loop (F := fun k i => impl_AreBins.l0 k l (l.length : Int) (i : Int)) (n := l.length) (res := fun i => (l.drop i).all binOk)
    (ev_suc 0 fun k _ => by
      simp only [impl_AreBins.l0]
      rw [if_neg (by omega), List.drop_of_length_le (Nat.le_refl _)]
      rfl)
    (fun i hi K hK => ev_suc K fun k hk => by
      simp only [impl_AreBins.l0]
      rw [if_pos (by omega), if_pos (by omega), if_pos (by omega), rdB_nat l i hi, List.drop_eq_getElem_cons hi, List.all_cons, w64s (by omega), hK k hk]
      by_cases h : binOk l[i] = true
      · have h2 := (binOk_iff _).1 h
        rw [if_neg (by omega), if_neg (by omega), if_neg (by omega), if_neg (by omega), if_neg (by omega), if_neg (by omega), if_neg (by omega), if_neg (by omega), h, Bool.true_and]
      · have h2 := mt (binOk_iff _).2 h
        rw [Bool.eq_false_iff.mpr h, Bool.false_and]
        repeat (split; rfl)
        exact absurd (by omega) h2) 0 (Nat.zero_le _)
  obtain ⟨K, h⟩ := h
  refine ev_suc K fun k hk => ?_
  have hk2 := h k hk
  unfold impl_AreBins.f binsOk
  by_cases h1 : (l.length : Int) < 1
  · rw [if_pos h1, (inr_false _ _ _).2 (by omega), Bool.and_false]
    simp only [impl_AreBins.j0]
    rw [if_pos trivial]
  · rw [if_neg h1]
    simp only [impl_AreBins.j0]
    by_cases h2 : (l.length : Int) > 6
    · rw [if_pos (by simpa using h2), (inr_false _ _ _).2 (by omega), Bool.and_false]
    · rw [if_neg (by simpa using h2), (inr_iff _ _ _).2 (by omega), Bool.and_true]
      exact hk2
/-- Parts fit their bins. -/
def fitAt (l : List S63) (p : List Int) (j : Nat) : Bool := inr 0 (rd_T63 l (j : Int)).f0 (rd p (j : Int))
def fitFrom (l : List S63) (p : List Int) (i : Nat) : Bool := ((List.range (l.length - i)).map (· + i)).all (fitAt l p)
theorem fitFrom_last (l : List S63) (p : List Int) : fitFrom l p l.length = true := by simp [fitFrom]
theorem fitFrom_step (l : List S63) (p : List Int) (i : Nat) (h : i < l.length) : fitFrom l p i = (fitAt l p i && fitFrom l p (i + 1)) := by
  unfold fitFrom
  rw [show l.length - i = (l.length - (i + 1)) + 1 from by omega, List.range_succ_eq_map, List.map_cons, List.all_cons, Nat.zero_add]
  congr 2
  rw [List.map_map]
  congr 1
  funext j
  simp only [Function.comp_apply]
  omega
def partsOk (l : List S63) (p : List Int) : Bool := binsOk l && (decide (p.length = l.length) && fitFrom l p 0)
theorem fits_of (l : List S63) (p : List Int) : ∀ d i, i + d = l.length → fitFrom l p i = true → ∀ j, i ≤ j → j < l.length → 0 ≤ rd p (j : Int) ∧ rd p (j : Int) ≤ (rd_T63 l (j : Int)).f0 := by
  intro d
  induction d with
  | zero => intro i h _ j h1 h2; omega
  | succ d ih =>
    intro i h hf j h1 h2
    rw [fitFrom_step l p i (by omega), Bool.and_eq_true] at hf
    by_cases e : j = i
    · subst e
      exact (inr_iff _ _ _).1 hf.1
    · exact ih (i + 1) (by omega) hf.2 j (by omega) h2
theorem blParts_ev (l : List S63) (p : List Int) (hl : l.length ≤ 1048576) (hp : p.length ≤ 1048576) : ∃ K, ∀ k, K ≤ k → spec_blParts.f k l p = some (partsOk l p) := by
  obtain ⟨K1, h1⟩ := blBins_ev l hl
  by_cases hlen : p.length = l.length
  · have h := ev_loop (F := fun k i => spec_blParts.l0 k p l (l.length : Int) (i : Int)) (n := l.length) (res := fun i => fitFrom l p i)
      (ev_suc 0 fun k _ => by
        simp only [spec_blParts.l0]
        rw [if_neg (by omega), fitFrom_last])
      (fun i hi K hK => ev_suc K fun k hk => by
        simp only [spec_blParts.l0]
        rw [if_pos (by omega), if_pos (by omega), if_pos (by omega), if_pos (by omega), l1In_eq, w64s (by omega), fitFrom_step l p i hi, show inr 0 (rd_T63 l (i : Int)).f0 (rd p (i : Int)) = fitAt l p i from rfl]
        simp only [Option.bind_some]
        by_cases h : fitAt l p i = true
        · rw [if_pos h, h, Bool.true_and]
          exact hK k hk
        · rw [if_neg h, Bool.eq_false_iff.mpr h, Bool.false_and]) 0 (Nat.zero_le _)
    obtain ⟨K2, h2⟩ := h
    refine ⟨K1 + K2 + 1, fun k hk => ?_⟩
    obtain ⟨k, rfl⟩ : ∃ m, k = m + 1 := ⟨k - 1, by omega⟩
    unfold spec_blParts.f partsOk
    rw [h1 _ (by omega)]
    simp only [Option.bind_some]
    have e : ((p.length : Int) != (l.length : Int)) = false := by simp [hlen]
    by_cases hb : binsOk l = true
    · rw [if_pos hb, e, hb, decide_eq_true hlen, Bool.true_and, Bool.true_and]
      simp only [spec_blParts.j0]
      rw [if_neg (by simp)]
      exact h2 k (by omega)
    · rw [if_neg hb, Bool.eq_false_iff.mpr hb, Bool.false_and]
      simp only [spec_blParts.j0]
      rw [if_pos trivial]
  · refine ⟨K1 + 1, fun k hk => ?_⟩
    obtain ⟨k, rfl⟩ : ∃ m, k = m + 1 := ⟨k - 1, by omega⟩
    unfold spec_blParts.f partsOk
    rw [h1 _ (by omega), decide_eq_false hlen, Bool.false_and, Bool.and_false]
    simp only [Option.bind_some]
    have e : ((p.length : Int) != (l.length : Int)) = true := by simp; omega
    by_cases hb : binsOk l = true
    · rw [if_pos hb, e]
      simp only [spec_blParts.j0]
      rw [if_pos trivial]
    · rw [if_neg hb]
      simp only [spec_blParts.j0]
      rw [if_pos trivial]
theorem areParts_ev (l : List S63) (p : List Int) (hl : l.length ≤ 1048576) (hp : p.length ≤ 1048576) : ∃ K, ∀ k, K ≤ k → impl_areParts.f k l p = some (decide (p.length = l.length) && fitFrom l p 0) := by
  by_cases hlen : p.length = l.length
  · have h := ev_loop (F := fun k i => impl_areParts.l0 k l p (p.length : Int) (i : Int)) (n := l.length) (res := fun i => fitFrom l p i)
      (ev_suc 0 fun k _ => by
        simp only [impl_areParts.l0]
        rw [if_neg (by omega), fitFrom_last])
      (fun i hi K hK => ev_suc K fun k hk => by
        simp only [impl_areParts.l0]
        rw [if_pos (by omega), if_pos (by omega), if_pos (by omega), w64s (by omega), fitFrom_step l p i hi, hK k hk]
        by_cases h : fitAt l p i = true
        · have h3 := (inr_iff _ _ _).1 h
          rw [if_neg (by omega), if_pos (by omega), if_neg (by omega), h, Bool.true_and]
        · have h3 := (inr_false _ _ _).1 (Bool.eq_false_iff.mpr h)
          rw [Bool.eq_false_iff.mpr h, Bool.false_and]
          by_cases h4 : rd p (i : Int) < 0
          · rw [if_pos h4]
          · rw [if_neg h4, if_pos (by omega), if_pos (by omega)]) 0 (Nat.zero_le _)
    obtain ⟨K2, h2⟩ := h
    refine ⟨K2, fun k hk => ?_⟩
    unfold impl_areParts.f
    rw [if_pos (by omega), decide_eq_true hlen, Bool.true_and]
    exact h2 k hk
  · refine ⟨0, fun k hk => ?_⟩
    unfold impl_areParts.f
    rw [if_neg (by omega), decide_eq_false hlen, Bool.false_and]
def takenAt (l : List S63) (p : List Int) (j : Nat) : S63 := ⟨(rd_T63 l (j : Int)).f0 - rd p (j : Int), (rd_T63 l (j : Int)).f1, (rd_T63 l (j : Int)).f2, (rd_T63 l (j : Int)).f3⟩
def takenTo (l : List S63) (p : List Int) (i : Nat) : List S63 := (List.range i).map (takenAt l p)
theorem takenTo_length (l : List S63) (p : List Int) (i : Nat) : (takenTo l p i).length = i := by simp [takenTo]
theorem takenTo_succ (l : List S63) (p : List Int) (i : Nat) : takenTo l p (i + 1) = takenTo l p i ++ [takenAt l p i] := by simp [takenTo, List.range_succ]
theorem parts_facts {l : List S63} {p : List Int} (h : partsOk l p = true) : (∀ x ∈ l, binOk x = true) ∧ 1 ≤ l.length ∧ l.length ≤ 6 ∧ p.length = l.length ∧ ∀ j, j < l.length → 0 ≤ rd p (j : Int) ∧ rd p (j : Int) ≤ (rd_T63 l (j : Int)).f0 ∧ (rd_T63 l (j : Int)).f0 ≤ 12 := by
  simp only [partsOk, Bool.and_eq_true, decide_eq_true_eq] at h
  obtain ⟨h1, h2, h3⟩ := h
  obtain ⟨h4, h5, h6⟩ := (binsOk_iff l).1 h1
  refine ⟨h4, h5, h6, h2, fun j hj => ?_⟩
  have h7 := fits_of l p l.length 0 (by omega) h3 j (by omega) hj
  have h8 := (binOk_iff _).1 (h4 _ (List.getElem_mem hj))
  rw [← rdB_nat l j hj] at h8
  exact ⟨h7.1, h7.2, h8.1.2⟩
theorem takeBlend_both (l : List S63) (p : List Int) (hl : l.length ≤ 1048576) (hp : p.length ≤ 1048576) : ∃ r, (∃ K, ∀ k, K ≤ k → spec_TakeBlend.f k l p = some r) ∧ (∃ K, ∀ k, K ≤ k → impl_TakeBlend.f k l p = some r) ∧ r.1.length ≤ 6 ∧ (partsOk l p = true → r = (takenTo l p l.length, true)) ∧ (¬ partsOk l p = true → r = ([], false)) := by
  obtain ⟨K1, h1⟩ := blParts_ev l p hl hp
  obtain ⟨K2, h2⟩ := areBins_ev l hl
  obtain ⟨K3, h3⟩ := areParts_ev l p hl hp
  by_cases h : partsOk l p = true
  · obtain ⟨f1, f2, f3, f4, f5⟩ := parts_facts h
    have hs := ev_loop (F := fun k i => spec_TakeBlend.l0 k p (takenTo l p i) l (l.length : Int) (i : Int)) (n := l.length) (res := fun _ => (takenTo l p l.length, true))
      (ev_suc 0 fun k _ => by simp only [spec_TakeBlend.l0]; rw [if_neg (by omega)])
      (fun i hi K hK => ev_suc K fun k hk => by
        have f6 := f5 i hi
        simp only [spec_TakeBlend.l0]
        rw [if_pos (by omega), if_pos (by omega), if_pos (by omega), if_pos (by omega), if_pos (by rw [takenTo_length]; omega), w64s (by omega), w64 (by omega) (by omega)]
        rw [takenTo_succ] at hK
        exact hK k hk) 0 (Nat.zero_le _)
    have hi := ev_loop (F := fun k i => impl_TakeBlend.l0 k (takenTo l p i ++ l.drop i) p (p.length : Int) (i : Int)) (n := l.length) (res := fun _ => (takenTo l p l.length, true))
      (ev_suc 0 fun k _ => by simp only [impl_TakeBlend.l0]; rw [if_neg (by omega), List.drop_length, List.append_nil])
      (fun i hi K hK => ev_suc K fun k hk => by
        have f6 := f5 i hi
        have e : rd_T63 (takenTo l p i ++ l.drop i) (i : Int) = rd_T63 l (i : Int) := by
          simp only [rd_T63, List.getD_eq_getElem?_getD, Int.toNat_natCast]
          rw [List.getElem?_append_right (by rw [takenTo_length]; exact Nat.le_refl _), takenTo_length, Nat.sub_self, List.getElem?_drop, Nat.add_zero]
        simp only [impl_TakeBlend.l0]
        rw [if_pos (by omega), if_pos (by omega), if_pos (by omega), if_pos (by rw [List.length_append, takenTo_length, List.length_drop]; omega), e, w64s (by omega), w64 (by omega) (by omega), Int.toNat_natCast]
        rw [List.set_append_right _ _ (by rw [takenTo_length]; exact Nat.le_refl _), takenTo_length, Nat.sub_self, List.drop_eq_getElem_cons hi, List.set_cons_zero]
        have hK2 := hK k hk
        rw [takenTo_succ, List.append_assoc, List.singleton_append] at hK2
        exact hK2) 0 (Nat.zero_le _)
    obtain ⟨K4, h4⟩ := hs
    obtain ⟨K5, h5⟩ := hi
    refine ⟨(takenTo l p l.length, true), ⟨K1 + K4, fun k hk => ?_⟩, ⟨K2 + K3 + K5 + 1, fun k hk => ?_⟩, by simp only [takenTo_length]; omega, fun _ => rfl, fun h2 => absurd h h2⟩
    · unfold spec_TakeBlend.f
      rw [h1 k (by omega)]
      simp only [Option.bind_some]
      rw [if_pos h]
      exact h4 k (by omega)
    · obtain ⟨k, rfl⟩ : ∃ m, k = m + 1 := ⟨k - 1, by omega⟩
      unfold impl_TakeBlend.f
      simp only [partsOk, Bool.and_eq_true] at h
      rw [h2 _ (by omega)]
      simp only [Option.bind_some]
      rw [if_pos h.1, h3 _ (by omega)]
      simp only [Option.bind_some, h.2.1, h.2.2, Bool.and_self, Bool.not_true]
      simp only [impl_TakeBlend.j0]
      rw [if_neg (by simp)]
      simp only [Option.bind_some, List.nil_append, List.length_nil, Nat.zero_add]
      rw [if_pos (by omega)]
      have h6 := h5 k (by omega)
      simpa [takenTo] using h6
  · refine ⟨([], false), ⟨K1, fun k hk => ?_⟩, ⟨K2 + K3 + 1, fun k hk => ?_⟩, by simp, fun h2 => absurd h2 h, fun _ => rfl⟩
    · unfold spec_TakeBlend.f
      rw [h1 k (by omega)]
      simp only [Option.bind_some]
      rw [if_neg h]
    · obtain ⟨k, rfl⟩ : ∃ m, k = m + 1 := ⟨k - 1, by omega⟩
      unfold impl_TakeBlend.f
      rw [h2 _ (by omega)]
      simp only [Option.bind_some]
      by_cases hb : binsOk l = true
      · rw [if_pos hb, h3 _ (by omega)]
        have e : (decide (p.length = l.length) && fitFrom l p 0) = false := by
          have h6 := Bool.eq_false_iff.mpr h
          simpa [partsOk, hb] using h6
        rw [e]
        simp only [Option.bind_some, impl_TakeBlend.j0, Bool.not_false, if_true]
      · rw [if_neg hb]
        simp only [impl_TakeBlend.j0, if_true]
theorem szBinS_ev (l : List S75) (a : Int) (ha : 0 ≤ a ∧ a ≤ 1048576) (hl : l.length ≤ maxLen) : ∃ r, laws_szBinS.f l a = some r ∧ (0 ≤ r → (l.length : Int) ≤ a) := by
  simp only [maxLen] at hl
  unfold laws_szBinS.f
  rw [w64 (by omega) (by omega)]
  by_cases h : a - (l.length : Int) < 0
  · exact ⟨-1, by rw [if_pos h], fun h2 => by omega⟩
  · exact ⟨a - (l.length : Int), by rw [if_neg h], fun _ => by omega⟩
def binsOf (l : List S75) : List S63 := l.map fun x => ⟨x.f0, x.f1, x.f2, x.f3⟩
theorem binsOf_length (l : List S75) : (binsOf l).length = l.length := by simp [binsOf]
theorem toBinS_ev (l : List S75) (hl : l.length ≤ 1048576) : ∃ K, ∀ k, K ≤ k → laws_toBinS.f k l = some (binsOf l) := by
  have hbl := binsOf_length l
  have h := ev_loop (F := fun k i => laws_toBinS.l0 k l ((binsOf l).take i ++ List.replicate ((binsOf l).length - i) z63) (i : Int)) (n := l.length) (res := fun _ => binsOf l)
    (ev_suc 0 fun k _ => by simp only [laws_toBinS.l0]; rw [if_neg (by omega), ← hbl, fill_last])
    (fun i hi K hK => ev_suc K fun k hk => by
      have hi2 : i < (binsOf l).length := by rw [hbl]; exact hi
      have e : rd_T75 l (i : Int) = l[i] := by simp [rd_T75, List.getD_eq_getElem?_getD, hi]
      have e2 : (⟨l[i].f0, l[i].f1, l[i].f2, l[i].f3⟩ : S63) = (binsOf l)[i] := by simp [binsOf]
      simp only [laws_toBinS.l0]
      rw [if_pos (by omega), if_pos (by omega), e]
      simp only [laws_toBin.f, Option.bind_some]
      rw [if_pos (by rw [fill_length _ _ i (by omega)]; omega), Int.toNat_natCast, e2, fill_step _ _ i hi2, w64s (by omega)]
      exact hK k hk) 0 (Nat.zero_le _)
  obtain ⟨K, h⟩ := h
  refine ⟨K, fun k hk => ?_⟩
  unfold laws_toBinS.f
  rw [if_pos (by omega), if_pos (by omega), Int.toNat_natCast]
  have h2 := h k hk
  rw [hbl] at h2
  simpa using h2
theorem eqBinS_ev (l : List S63) (hl : l.length ≤ 1048576) : ∃ K, ∀ k, K ≤ k → laws_eqBinS.f k l l = some true := by
  have h := ev_loop (F := fun k i => laws_eqBinS.l0 k l l (i : Int)) (n := l.length) (res := fun _ => true)
    (ev_suc 0 fun k _ => by simp only [laws_eqBinS.l0]; rw [if_neg (by omega)])
    (fun i hi K hK => ev_suc K fun k hk => by
      simp only [laws_eqBinS.l0]
      rw [if_pos (by omega), if_pos (by omega), if_pos (by omega)]
      simp only [laws_eqBin.f, if_true, Option.bind_some]
      rw [w64s (by omega)]
      exact hK k hk) 0 (Nat.zero_le _)
  obtain ⟨K, h⟩ := h
  refine ⟨K, fun k hk => ?_⟩
  unfold laws_eqBinS.f
  rw [if_pos rfl]
  exact h k hk
def rampB (a : Int) (n : Nat) : List S63 := (List.range n).map fun (i : Nat) => ⟨a + 4 * (i : Int), a + 4 * (i : Int) + 1, a + 4 * (i : Int) + 1 + 1, a + 4 * (i : Int) + 1 + 1 + 1⟩
theorem rampB_length (a : Int) (n : Nat) : (rampB a n).length = n := by simp [rampB]
theorem rampB_succ (a : Int) (n : Nat) : rampB a (n + 1) = rampB a n ++ [⟨a + 4 * (n : Int), a + 4 * (n : Int) + 1, a + 4 * (n : Int) + 1 + 1, a + 4 * (n : Int) + 1 + 1 + 1⟩] := by simp [rampB, List.range_succ]
theorem rdB_mid (p r : List S63) (x : S63) : rd_T63 (p ++ x :: r) (p.length : Int) = x := by simp [rd_T63, List.getD_eq_getElem?_getD]
theorem set_mid {α : Type} (p r : List α) (x y : α) (n : Nat) (h : p.length = n) : (p ++ x :: r).set n y = p ++ y :: r := by subst h; simp
theorem markBinS_ev (l : List S63) (hl : l.length ≤ 1048576) (a : Int) (ha : 0 ≤ a ∧ a ≤ 1000000000000000000) : ∃ K, ∀ k, K ≤ k → laws_markBinS.f k l a = some (a + 4 * (l.length : Int), rampB a l.length) := by
  have h := ev_loop (F := fun k i => laws_markBinS.l0 k (rampB a i ++ l.drop i) (a + 4 * (i : Int)) (i : Int)) (n := l.length) (res := fun _ => (a + 4 * (l.length : Int), rampB a l.length))
    (ev_suc 0 fun k _ => by simp only [laws_markBinS.l0]; rw [if_neg (by simp [rampB_length]), List.drop_length, List.append_nil])
    (fun i hi K hK => ev_suc K fun k hk => by
      have hlen := rampB_length a i
      have e : ∀ x r, rd_T63 (rampB a i ++ x :: r) (i : Int) = x := fun x r => by
        have := rdB_mid (rampB a i) r x
        rwa [hlen] at this
      have hK2 := hK k hk
      rw [rampB_succ, List.append_assoc, List.singleton_append] at hK2
      simp only [laws_markBinS.l0]
      rw [if_pos (by simp [rampB_length]; omega), if_pos (by omega), List.drop_eq_getElem_cons hi]
      simp only [Option.bind_some, Int.toNat_natCast, set_mid _ _ _ _ i hlen, e]
      simp (disch := omega) only [w64]
      rw [show a + 4 * (i : Int) + 1 + 1 + 1 + 1 = a + 4 * ((i + 1 : Nat) : Int) from by omega, show (i : Int) + 1 = ((i + 1 : Nat) : Int) from by omega]
      exact hK2) 0 (Nat.zero_le _)
  simpa [laws_markBinS.f, rampB] using h
theorem heldBinS_ev (n : Nat) (hl : n ≤ 1048576) (a : Int) (ha : 0 ≤ a ∧ a ≤ 1000000000000000000) : ∃ K, ∀ k, K ≤ k → laws_heldBinS.f k (rampB a n) a = some (a + 4 * (n : Int)) := by
  have h := ev_loop (F := fun k i => laws_heldBinS.l0 k (rampB a n) (a + 4 * (i : Int)) (i : Int)) (n := n) (res := fun _ => a + 4 * (n : Int))
    (ev_suc 0 fun k _ => by simp only [laws_heldBinS.l0]; rw [if_neg (by rw [rampB_length]; omega)])
    (fun i hi K hK => ev_suc K fun k hk => by
      have e : rd_T63 (rampB a n) (i : Int) = ⟨a + 4 * (i : Int), a + 4 * (i : Int) + 1, a + 4 * (i : Int) + 1 + 1, a + 4 * (i : Int) + 1 + 1 + 1⟩ := by
        rw [rdB_nat _ i (by rw [rampB_length]; exact hi)]
        simp [rampB]
      simp only [laws_heldBinS.l0]
      rw [if_pos (by rw [rampB_length]; omega), if_pos (by omega), e]
      simp (disch := omega) only [w64, if_true]
      rw [show a + 4 * (i : Int) + 1 + 1 + 1 + 1 = a + 4 * ((i + 1 : Nat) : Int) from by omega, show (i : Int) + 1 = ((i + 1 : Nat) : Int) from by omega]
      exact hK k hk) 0 (Nat.zero_le _)
  simpa [laws_heldBinS.f] using h
theorem FnExactTakeBlend (l : List S75) (p : List Int) (hl : l.length ≤ maxLen) (_ : ∀ x ∈ l, (Lit.int .i64 x.f0).wf = true ∧ (Lit.int .i64 x.f1).wf = true ∧ (Lit.int .i64 x.f2).wf = true ∧ (Lit.int .i64 x.f3).wf = true) (_ : p.length ≤ maxLen) (_ : ∀ z ∈ p, (Lit.int .i64 z).wf = true) : ∃ k, laws_FnExactTakeBlend.f k l p = some true := by
  by_cases hm : (p.length : Int) > 1048576
  · refine ⟨0, ?_⟩
    unfold laws_FnExactTakeBlend.f
    rw [if_pos hm]
  · obtain ⟨s, h0, hs⟩ := szBinS_ev l 1048576 (by omega) hl
    by_cases hneg : s < 0
    · refine ⟨0, ?_⟩
      unfold laws_FnExactTakeBlend.f
      rw [if_neg hm, h0]
      simp only [Option.bind_some]
      rw [if_pos hneg]
    · have hb := hs (by omega)
      have hbl := binsOf_length l
      obtain ⟨r, ⟨K1, h1⟩, ⟨K2, h2⟩, hr, _⟩ := takeBlend_both (binsOf l) p (by omega) (by omega)
      obtain ⟨K3, h3⟩ := toBinS_ev l (by omega)
      obtain ⟨K4, h4⟩ := toIntS_ev p (by omega)
      obtain ⟨K5, h5⟩ := eqBinS_ev r.1 (by omega)
      obtain ⟨K6, h6⟩ := eqBinS_ev (binsOf l) (by omega)
      obtain ⟨K7, h7⟩ := eqIntS_ev p (by omega)
      obtain ⟨K8, h8⟩ := markBinS_ev (binsOf l) (by omega) 1 (by omega)
      obtain ⟨K9, h9⟩ := markIntS_ev p (by omega) (1 + 4 * ((binsOf l).length : Int)) (by omega)
      obtain ⟨K10, h10⟩ := markBinS_ev r.1 (by omega) 1 (by omega)
      obtain ⟨K11, h11⟩ := heldBinS_ev r.1.length (by omega) 1 (by omega)
      refine ⟨K1 + K2 + K3 + K4 + K5 + K6 + K7 + K8 + K9 + K10 + K11 + 5, ?_⟩
      have q1 : ¬ (1 + 4 * ((binsOf l).length : Int) + (p.length : Int) < 0) := by omega
      have q2 : ¬ (1 + 4 * (r.1.length : Int) < 0) := by omega
      simp (disch := omega) only [laws_FnExactTakeBlend.f, h0, hneg, hm, if_false, h1, h2, h3, h4, h5, h6, h7, h8, h9, h10, h11, q1, q2, Option.bind_some, if_true, bne_self_eq_false, Bool.false_eq_true]
      simp (disch := omega) only [laws_FnExactTakeBlend.j0, if_false, h1, h2, h3, h4, h5, h6, h7, h8, h9, h10, h11, q1, q2, Option.bind_some, if_true, bne_self_eq_false, Bool.false_eq_true]
      simp (disch := omega) only [laws_FnExactTakeBlend.j1, if_false, h1, h2, h3, h4, h5, h6, h7, h8, h9, h10, h11, q1, q2, Option.bind_some, if_true, bne_self_eq_false, Bool.false_eq_true]
      simp (disch := omega) only [laws_FnExactTakeBlend.j2, if_false, h1, h2, h3, h4, h5, h6, h7, h8, h9, h10, h11, q1, q2, Option.bind_some, if_true, bne_self_eq_false, Bool.false_eq_true]

end Go.Proofs.Ytcinecbfkeefaaa.Pure
