/- THE PURE SIDE OF FnBins: the printed functions of the reference and of the program give the same results. Plain Lean: no memory and no Go. -/
import Derived.Test.YtcinecbfkeefaaaPFnBinsx10
import Derived.OpenShut
import Derived.Laws.Bits64b
namespace Go.Proofs.Ytcinecbfkeefaaa.Pure
open Go.RowKit Go.Proofs.Ytcinecbfkeefaaa.PFnBins Go.Proofs.YtcinecbfkeefaaaW.PrintWords Go.Proofs.YtcinecbfkeefaaaW.PrintLast Go.Proofs.YtcinecbfkeefaaaW.PrintMore
set_option linter.unusedVariables false
set_option linter.unusedSimpArgs false

theorem w64 {x : Int} (h1 : -9223372036854775808 ≤ x) (h2 : x ≤ 9223372036854775807) : wrap64 x = x := by unfold wrap64; omega
theorem w64s {i : Nat} (h : i ≤ 9000000000000000000) : wrap64 ((i : Int) + 1) = ((i + 1 : Nat) : Int) := by rw [w64 (by omega) (by omega)]; omega
theorem rd_nat (l : List Int) (i : Nat) (h : i < l.length) : rd l (i : Int) = l[i] := by simp [rd, List.getD_eq_getElem?_getD, h]
def inr (lo hi x : Int) : Bool := decide (lo ≤ x) && decide (x ≤ hi)
theorem inr_iff (lo hi x : Int) : inr lo hi x = true ↔ lo ≤ x ∧ x ≤ hi := by simp [inr]
theorem inr_false (lo hi x : Int) : inr lo hi x = false ↔ ¬ (lo ≤ x ∧ x ≤ hi) := by rw [← inr_iff, Bool.not_eq_true]
theorem mx_of_lt {a b : Int} (h : a < b) : mx a b = b := if_pos h
theorem l1In_eq (a b c : Int) : spec_l1In.f a b c = some (inr b c a) := by
  unfold spec_l1In.f inr
  by_cases h : a ≥ b
  · rw [if_pos h]; simp [show b ≤ a from h]
  · rw [if_neg h]; simp [show ¬ b ≤ a from h]
theorem l1All_l0 (lo hi : Int) (l : List Int) (hl : l.length ≤ 9000000000000000000) : ∀ (d k i : Nat), i + d = l.length → d < k → spec_l1All.l0 k lo hi l (l.length : Int) (i : Int) = some ((l.drop i).all (inr lo hi)) := by
  intro d
  induction d with
  | zero =>
    intro k i hi' hk
    obtain ⟨k, rfl⟩ : ∃ m, k = m + 1 := ⟨k - 1, by omega⟩
    simp only [spec_l1All.l0]
    rw [if_neg (by omega), List.drop_of_length_le (by omega)]; rfl
  | succ d ih =>
    intro k i hi' hk
    obtain ⟨k, rfl⟩ : ∃ m, k = m + 1 := ⟨k - 1, by omega⟩
    have hlt : i < l.length := by omega
    simp only [spec_l1All.l0]
    rw [if_pos (by omega), if_pos (by omega), if_pos (by omega), l1In_eq, List.drop_eq_getElem_cons hlt, List.all_cons, rd_nat l i hlt, w64s (by omega), ih k (i + 1) (by omega) (by omega)]
    simp only [Option.bind_some]
    by_cases h : inr lo hi l[i] = true
    · rw [if_pos h, h, Bool.true_and]
    · rw [if_neg h, Bool.eq_false_iff.mpr h, Bool.false_and]
theorem l1All_eq (lo hi : Int) (l : List Int) (hl : l.length ≤ 9000000000000000000) (k : Nat) (hk : l.length < k) : spec_l1All.f k l lo hi = some (l.all (inr lo hi)) := by
  unfold spec_l1All.f
  exact l1All_l0 lo hi l hl l.length k 0 (by omega) hk
theorem ev_loop {β : Type} {F : Nat → Nat → Option β} {n : Nat} {res : Nat → β} (last : ∃ K, ∀ k, K ≤ k → F k n = some (res n)) (step : ∀ i, i < n → ∀ K, (∀ k, K ≤ k → F k (i + 1) = some (res (i + 1))) → ∃ K, ∀ k, K ≤ k → F k i = some (res i)) : ∀ i, i ≤ n → ∃ K, ∀ k, K ≤ k → F k i = some (res i) := by
  have key : ∀ d i, i + d = n → ∃ K, ∀ k, K ≤ k → F k i = some (res i) := by
    intro d
    induction d with
    | zero => intro i h; obtain rfl : i = n := by omega
              exact last
    | succ d ih =>
      intro i h
      obtain ⟨K, hK⟩ := ih (i + 1) (by omega)
      exact step i (by omega) K hK
  exact fun i h => key (n - i) i (by omega)
/-- One round more. -/
theorem ev_suc {β : Type} {g : Nat → Option β} {r : β} (K : Nat) (h : ∀ k, K ≤ k → g (k + 1) = some r) : ∃ K, ∀ k, K ≤ k → g k = some r :=
  ⟨K + 1, fun k hk => by obtain ⟨k, rfl⟩ : ∃ m, k = m + 1 := ⟨k - 1, by omega⟩; exact h k (by omega)⟩
theorem rdB_nat (l : List S63) (i : Nat) (h : i < l.length) : rd_T63 l (i : Int) = l[i] := by simp [rd_T63, List.getD_eq_getElem?_getD, h]
def binOk (x : S63) : Bool := inr 0 12 x.f0 && (inr 0 1000 x.f1 && (inr 0 1000 x.f2 && inr 0 1000 x.f3))
theorem binOk_iff (x : S63) : binOk x = true ↔ (0 ≤ x.f0 ∧ x.f0 ≤ 12) ∧ (0 ≤ x.f1 ∧ x.f1 ≤ 1000) ∧ (0 ≤ x.f2 ∧ x.f2 ≤ 1000) ∧ (0 ≤ x.f3 ∧ x.f3 ≤ 1000) := by
  simp [binOk, inr]
def binsOk (l : List S63) : Bool := l.all binOk && inr 1 6 (l.length : Int)
theorem binsOk_iff (l : List S63) : binsOk l = true ↔ (∀ x ∈ l, binOk x = true) ∧ 1 ≤ l.length ∧ l.length ≤ 6 := by
  simp only [binsOk, Bool.and_eq_true, List.all_eq_true, inr_iff]
  constructor
  · rintro ⟨h1, h2, h3⟩; exact ⟨h1, by omega, by omega⟩
  · rintro ⟨h1, h2, h3⟩; exact ⟨h1, by omega, by omega⟩
theorem blBins_ev (l : List S63) (hl : l.length ≤ 1048576) : ∃ K, ∀ k, K ≤ k → spec_blBins.f k l = some (binsOk l) := by
  have h := ev_loop (F := fun k i => spec_blBins.l0 k l l (l.length : Int) (i : Int)) (n := l.length) (res := fun i => (l.drop i).all binOk && inr 1 6 (l.length : Int))
    (ev_suc 0 fun k _ => by
      simp only [spec_blBins.l0]
      rw [if_neg (by omega), l1In_eq, List.drop_of_length_le (Nat.le_refl _)]
      rfl)
    (fun i hi K hK => ev_suc (max K 10) fun k hk => by
      simp only [spec_blBins.l0]
      rw [if_pos (by omega), if_pos (by omega), if_pos (by omega), rdB_nat l i hi, l1In_eq, List.drop_eq_getElem_cons hi, List.all_cons, w64s (by omega)]
      simp only [Option.bind_some]
      by_cases h1 : inr 0 12 l[i].f0 = true
      · rw [if_pos h1, l1All_eq 0 1000 [l[i].f1, l[i].f2, l[i].f3] (by simp) k (by simp; omega)]
        simp only [Option.bind_some]
        have e : binOk l[i] = [l[i].f1, l[i].f2, l[i].f3].all (inr 0 1000) := by simp [binOk, h1]
        rw [e]
        by_cases h2 : [l[i].f1, l[i].f2, l[i].f3].all (inr 0 1000) = true
        · rw [if_pos h2, h2, Bool.true_and]
          exact hK k (by omega)
        · rw [if_neg h2, Bool.eq_false_iff.mpr h2, Bool.false_and, Bool.false_and]
      · rw [if_neg h1]
        have e : binOk l[i] = false := by simp [binOk, Bool.eq_false_iff.mpr h1]
        rw [e, Bool.false_and, Bool.false_and]) 0 (Nat.zero_le _)
  exact h
theorem areBins_ev (l : List S63) (hl : l.length ≤ 1048576) : ∃ K, ∀ k, K ≤ k → impl_AreBins.f k l = some (binsOk l) := by
  have h := ev_loop (F := fun k i => impl_AreBins.l0 k l (l.length : Int) (i : Int)) (n := l.length) (res := fun i => (l.drop i).all binOk)
    (ev_suc 0 fun k _ => by
      simp only [impl_AreBins.l0]
      rw [if_neg (by omega), List.drop_of_length_le (Nat.le_refl _)]
      rfl)
    (fun i hi K hK => ev_suc K fun k hk => by
      simp only [impl_AreBins.l0]
      rw [if_pos (by omega), if_pos (by omega), if_pos (by omega), rdB_nat l i hi, List.drop_eq_getElem_cons hi, List.all_cons, w64s (by omega), hK k hk]
      by_cases h : binOk l[i] = true
      · have h2 := (binOk_iff _).1 h
        rw [if_neg (by omega), if_neg (by omega), if_neg (by omega), if_neg (by omega), if_neg (by omega), if_neg (by omega), if_neg (by omega), if_neg (by omega), h, Bool.true_and]
      · have h2 := mt (binOk_iff _).2 h
        rw [Bool.eq_false_iff.mpr h, Bool.false_and]
        repeat (split; rfl)
        exact absurd (by omega) h2) 0 (Nat.zero_le _)
  obtain ⟨K, h⟩ := h
  refine ev_suc K fun k hk => ?_
  have hk2 := h k hk
  unfold impl_AreBins.f binsOk
  by_cases h1 : (l.length : Int) < 1
  · rw [if_pos h1, (inr_false _ _ _).2 (by omega), Bool.and_false]
    simp only [impl_AreBins.j0]
    rw [if_pos trivial]
  · rw [if_neg h1]
    simp only [impl_AreBins.j0]
    by_cases h2 : (l.length : Int) > 6
    · rw [if_pos (by simpa using h2), (inr_false _ _ _).2 (by omega), Bool.and_false]
    · rw [if_neg (by simpa using h2), (inr_iff _ _ _).2 (by omega), Bool.and_true]
      exact hk2
/-- Parts fit their bins. -/
def fitAt (l : List S63) (p : List Int) (j : Nat) : Bool := inr 0 (rd_T63 l (j : Int)).f0 (rd p (j : Int))
def fitFrom (l : List S63) (p : List Int) (i : Nat) : Bool := ((List.range (l.length - i)).map (· + i)).all (fitAt l p)
theorem fitFrom_last (l : List S63) (p : List Int) : fitFrom l p l.length = true := by simp [fitFrom]
theorem fitFrom_step (l : List S63) (p : List Int) (i : Nat) (h : i < l.length) : fitFrom l p i = (fitAt l p i && fitFrom l p (i + 1)) := by
  unfold fitFrom
  rw [show l.length - i = (l.length - (i + 1)) + 1 from by omega, List.range_succ_eq_map, List.map_cons, List.all_cons, Nat.zero_add]
  congr 2
  rw [List.map_map]
  congr 1
  funext j
  simp only [Function.comp_apply]
  omega
def partsOk (l : List S63) (p : List Int) : Bool := binsOk l && (decide (p.length = l.length) && fitFrom l p 0)
theorem fits_of (l : List S63) (p : List Int) : ∀ d i, i + d = l.length → fitFrom l p i = true → ∀ j, i ≤ j → j < l.length → 0 ≤ rd p (j : Int) ∧ rd p (j : Int) ≤ (rd_T63 l (j : Int)).f0 := by
  intro d
  induction d with
  | zero => intro i h _ j h1 h2; omega
  | succ d ih =>
    intro i h hf j h1 h2
    rw [fitFrom_step l p i (by omega), Bool.and_eq_true] at hf
    by_cases e : j = i
    · subst e
      exact (inr_iff _ _ _).1 hf.1
    · exact ih (i + 1) (by omega) hf.2 j (by omega) h2
theorem blParts_ev (l : List S63) (p : List Int) (hl : l.length ≤ 1048576) (hp : p.length ≤ 1048576) : ∃ K, ∀ k, K ≤ k → spec_blParts.f k l p = some (partsOk l p) := by
  obtain ⟨K1, h1⟩ := blBins_ev l hl
  by_cases hlen : p.length = l.length
  · have h := ev_loop (F := fun k i => spec_blParts.l0 k p l (l.length : Int) (i : Int)) (n := l.length) (res := fun i => fitFrom l p i)
      (ev_suc 0 fun k _ => by
        simp only [spec_blParts.l0]
        rw [if_neg (by omega), fitFrom_last])
      (fun i hi K hK => ev_suc K fun k hk => by
        simp only [spec_blParts.l0]
        rw [if_pos (by omega), if_pos (by omega), if_pos (by omega), if_pos (by omega), l1In_eq, w64s (by omega), fitFrom_step l p i hi, show inr 0 (rd_T63 l (i : Int)).f0 (rd p (i : Int)) = fitAt l p i from rfl]
        simp only [Option.bind_some]
        by_cases h : fitAt l p i = true
        · rw [if_pos h, h, Bool.true_and]
          exact hK k hk
        · rw [if_neg h, Bool.eq_false_iff.mpr h, Bool.false_and]) 0 (Nat.zero_le _)
    obtain ⟨K2, h2⟩ := h
    refine ⟨K1 + K2 + 1, fun k hk => ?_⟩
    obtain ⟨k, rfl⟩ : ∃ m, k = m + 1 := ⟨k - 1, by omega⟩
    unfold spec_blParts.f partsOk
    rw [h1 _ (by omega)]
    simp only [Option.bind_some]
    have e : ((p.length : Int) != (l.length : Int)) = false := by simp [hlen]
    by_cases hb : binsOk l = true
    · rw [if_pos hb, e, hb, decide_eq_true hlen, Bool.true_and, Bool.true_and]
      simp only [spec_blParts.j0]
      rw [if_neg (by simp)]
      exact h2 k (by omega)
    · rw [if_neg hb, Bool.eq_false_iff.mpr hb, Bool.false_and]
      simp only [spec_blParts.j0]
      rw [if_pos trivial]
  · refine ⟨K1 + 1, fun k hk => ?_⟩
    obtain ⟨k, rfl⟩ : ∃ m, k = m + 1 := ⟨k - 1, by omega⟩
    unfold spec_blParts.f partsOk
    rw [h1 _ (by omega), decide_eq_false hlen, Bool.false_and, Bool.and_false]
    simp only [Option.bind_some]
    have e : ((p.length : Int) != (l.length : Int)) = true := by simp; omega
    by_cases hb : binsOk l = true
    · rw [if_pos hb, e]
      simp only [spec_blParts.j0]
      rw [if_pos trivial]
    · rw [if_neg hb]
      simp only [spec_blParts.j0]
      rw [if_pos trivial]
theorem areParts_ev (l : List S63) (p : List Int) (hl : l.length ≤ 1048576) (hp : p.length ≤ 1048576) : ∃ K, ∀ k, K ≤ k → impl_areParts.f k l p = some (decide (p.length = l.length) && fitFrom l p 0) := by
  by_cases hlen : p.length = l.length
  · have h := ev_loop (F := fun k i => impl_areParts.l0 k l p (p.length : Int) (i : Int)) (n := l.length) (res := fun i => fitFrom l p i)
      (ev_suc 0 fun k _ => by
        simp only [impl_areParts.l0]
        rw [if_neg (by omega), fitFrom_last])
      (fun i hi K hK => ev_suc K fun k hk => by
        simp only [impl_areParts.l0]
        rw [if_pos (by omega), if_pos (by omega), if_pos (by omega), w64s (by omega), fitFrom_step l p i hi, hK k hk]
        by_cases h : fitAt l p i = true
        · have h3 := (inr_iff _ _ _).1 h
          rw [if_neg (by omega), if_pos (by omega), if_neg (by omega), h, Bool.true_and]
        · have h3 := (inr_false _ _ _).1 (Bool.eq_false_iff.mpr h)
          rw [Bool.eq_false_iff.mpr h, Bool.false_and]
          by_cases h4 : rd p (i : Int) < 0
          · rw [if_pos h4]
          · rw [if_neg h4, if_pos (by omega), if_pos (by omega)]) 0 (Nat.zero_le _)
    obtain ⟨K2, h2⟩ := h
    refine ⟨K2, fun k hk => ?_⟩
    unfold impl_areParts.f
    rw [if_pos (by omega), decide_eq_true hlen, Bool.true_and]
    exact h2 k hk
  · refine ⟨0, fun k hk => ?_⟩
    unfold impl_areParts.f
    rw [if_neg (by omega), decide_eq_false hlen, Bool.false_and]
def takenAt (l : List S63) (p : List Int) (j : Nat) : S63 := ⟨(rd_T63 l (j : Int)).f0 - rd p (j : Int), (rd_T63 l (j : Int)).f1, (rd_T63 l (j : Int)).f2, (rd_T63 l (j : Int)).f3⟩
def takenTo (l : List S63) (p : List Int) (i : Nat) : List S63 := (List.range i).map (takenAt l p)
theorem takenTo_length (l : List S63) (p : List Int) (i : Nat) : (takenTo l p i).length = i := by simp [takenTo]
theorem takenTo_succ (l : List S63) (p : List Int) (i : Nat) : takenTo l p (i + 1) = takenTo l p i ++ [takenAt l p i] := by simp [takenTo, List.range_succ]
theorem parts_facts {l : List S63} {p : List Int} (h : partsOk l p = true) : (∀ x ∈ l, binOk x = true) ∧ 1 ≤ l.length ∧ l.length ≤ 6 ∧ p.length = l.length ∧ ∀ j, j < l.length → 0 ≤ rd p (j : Int) ∧ rd p (j : Int) ≤ (rd_T63 l (j : Int)).f0 ∧ (rd_T63 l (j : Int)).f0 ≤ 12 := by
  simp only [partsOk, Bool.and_eq_true, decide_eq_true_eq] at h
  obtain ⟨h1, h2, h3⟩ := h
  obtain ⟨h4, h5, h6⟩ := (binsOk_iff l).1 h1
  refine ⟨h4, h5, h6, h2, fun j hj => ?_⟩
  have h7 := fits_of l p l.length 0 (by omega) h3 j (by omega) hj
  have h8 := (binOk_iff _).1 (h4 _ (List.getElem_mem hj))
  rw [← rdB_nat l j hj] at h8
  exact ⟨h7.1, h7.2, h8.1.2⟩
theorem takeBlend_both (l : List S63) (p : List Int) (hl : l.length ≤ 1048576) (hp : p.length ≤ 1048576) : ∃ r, (∃ K, ∀ k, K ≤ k → spec_TakeBlend.f k l p = some r) ∧ (∃ K, ∀ k, K ≤ k → impl_TakeBlend.f k l p = some r) ∧ r.1.length ≤ 6 ∧ (partsOk l p = true → r = (takenTo l p l.length, true)) ∧ (¬ partsOk l p = true → r = ([], false)) := by
  obtain ⟨K1, h1⟩ := blParts_ev l p hl hp
  obtain ⟨K2, h2⟩ := areBins_ev l hl
  obtain ⟨K3, h3⟩ := areParts_ev l p hl hp
  by_cases h : partsOk l p = true
  · obtain ⟨f1, f2, f3, f4, f5⟩ := parts_facts h
    have hs := ev_loop (F := fun k i => spec_TakeBlend.l0 k p (takenTo l p i) l (l.length : Int) (i : Int)) (n := l.length) (res := fun _ => (takenTo l p l.length, true))
      (ev_suc 0 fun k _ => by simp only [spec_TakeBlend.l0]; rw [if_neg (by omega)])
      (fun i hi K hK => ev_suc K fun k hk => by
        have f6 := f5 i hi
        simp only [spec_TakeBlend.l0]
        rw [if_pos (by omega), if_pos (by omega), if_pos (by omega), if_pos (by omega), if_pos (by rw [takenTo_length]; omega), w64s (by omega), w64 (by omega) (by omega)]
        rw [takenTo_succ] at hK
        exact hK k hk) 0 (Nat.zero_le _)
    have hi := ev_loop (F := fun k i => impl_TakeBlend.l0 k (takenTo l p i ++ l.drop i) p (p.length : Int) (i : Int)) (n := l.length) (res := fun _ => (takenTo l p l.length, true))
      (ev_suc 0 fun k _ => by simp only [impl_TakeBlend.l0]; rw [if_neg (by omega), List.drop_length, List.append_nil])
      (fun i hi K hK => ev_suc K fun k hk => by
        have f6 := f5 i hi
        have e : rd_T63 (takenTo l p i ++ l.drop i) (i : Int) = rd_T63 l (i : Int) := by
          simp only [rd_T63, List.getD_eq_getElem?_getD, Int.toNat_natCast]
          rw [List.getElem?_append_right (by rw [takenTo_length]; exact Nat.le_refl _), takenTo_length, Nat.sub_self, List.getElem?_drop, Nat.add_zero]
        simp only [impl_TakeBlend.l0]
        rw [if_pos (by omega), if_pos (by omega), if_pos (by omega), if_pos (by rw [List.length_append, takenTo_length, List.length_drop]; omega), e, w64s (by omega), w64 (by omega) (by omega), Int.toNat_natCast]
        rw [List.set_append_right _ _ (by rw [takenTo_length]; exact Nat.le_refl _), takenTo_length, Nat.sub_self, List.drop_eq_getElem_cons hi, List.set_cons_zero]
        have hK2 := hK k hk
        rw [takenTo_succ, List.append_assoc, List.singleton_append] at hK2
        exact hK2) 0 (Nat.zero_le _)
    obtain ⟨K4, h4⟩ := hs
    obtain ⟨K5, h5⟩ := hi
    refine ⟨(takenTo l p l.length, true), ⟨K1 + K4, fun k hk => ?_⟩, ⟨K2 + K3 + K5 + 1, fun k hk => ?_⟩, by simp only [takenTo_length]; omega, fun _ => rfl, fun h2 => absurd h h2⟩
    · unfold spec_TakeBlend.f
      rw [h1 k (by omega)]
      simp only [Option.bind_some]
      rw [if_pos h]
      exact h4 k (by omega)
    · obtain ⟨k, rfl⟩ : ∃ m, k = m + 1 := ⟨k - 1, by omega⟩
      unfold impl_TakeBlend.f
      simp only [partsOk, Bool.and_eq_true] at h
      rw [h2 _ (by omega)]
      simp only [Option.bind_some]
      rw [if_pos h.1, h3 _ (by omega)]
      simp only [Option.bind_some, h.2.1, h.2.2, Bool.and_self, Bool.not_true]
      simp only [impl_TakeBlend.j0]
      rw [if_neg (by simp)]
      simp only [Option.bind_some, List.nil_append, List.length_nil, Nat.zero_add]
      rw [if_pos (by omega)]
      have h6 := h5 k (by omega)
      simpa [takenTo] using h6
  · refine ⟨([], false), ⟨K1, fun k hk => ?_⟩, ⟨K2 + K3 + 1, fun k hk => ?_⟩, by simp, fun h2 => absurd h2 h, fun _ => rfl⟩
    · unfold spec_TakeBlend.f
      rw [h1 k (by omega)]
      simp only [Option.bind_some]
      rw [if_neg h]
    · obtain ⟨k, rfl⟩ : ∃ m, k = m + 1 := ⟨k - 1, by omega⟩
      unfold impl_TakeBlend.f
      rw [h2 _ (by omega)]
      simp only [Option.bind_some]
      by_cases hb : binsOk l = true
      · rw [if_pos hb, h3 _ (by omega)]
        have e : (decide (p.length = l.length) && fitFrom l p 0) = false := by
          have h6 := Bool.eq_false_iff.mpr h
          simpa [partsOk, hb] using h6
        rw [e]
        simp only [Option.bind_some, impl_TakeBlend.j0, Bool.not_false, if_true]
      · rw [if_neg hb]
        simp only [impl_TakeBlend.j0, if_true]
theorem flatMap_le {α β : Type} (g : α → List β) (B : Nat) : ∀ l : List α, (∀ x ∈ l, (g x).length ≤ B) → (l.flatMap g).length ≤ l.length * B := by
  intro l
  induction l with
  | nil => intro _; simp
  | cons x l ih =>
    intro h
    have h1 := h x (List.mem_cons_self)
    have h2 := ih (fun y hy => h y (List.mem_cons_of_mem _ hy))
    rw [List.flatMap_cons, List.length_append, List.length_cons, Nat.add_mul, Nat.one_mul]
    omega
def foldO {σ α : Type} (step : σ → α → Option σ) : σ → List α → Option σ
  | s, [] => some s
  | s, a :: l => (step s a).bind fun s' => foldO step s' l
theorem foldO_append {σ α : Type} (step : σ → α → Option σ) : ∀ (l l2 : List α) (s : σ), foldO step s (l ++ l2) = (foldO step s l).bind fun s' => foldO step s' l2 := by
  intro l
  induction l with
  | nil => intro l2 s; rfl
  | cons a l ih =>
    intro l2 s
    simp only [List.cons_append, foldO]
    cases step s a with
    | none => rfl
    | some s1 => exact ih l2 s1
/-- All parts of bins that come to a sum, in lexicographic order. -/
def partsAll : List S63 → Int → List (List Int)
  | [], left => if left = 0 then [[]] else []
  | b :: l, left => (List.range' 0 (mn left b.f0 + 1).toNat).flatMap fun (n : Nat) => (partsAll l (left - (n : Int))).map fun r => (n : Int) :: r
theorem rdLLp (l : List (List Int)) (i : Nat) (h : i < l.length) : rd_L7 l (i : Int) = l[i] := by simp [rd_L7, List.getD_eq_getElem?_getD, h]
theorem mn_le (a b : Int) : mn a b ≤ a := by unfold mn; split <;> omega
theorem partsAll_mem : ∀ (l : List S63) (left : Int), left ≤ 12 → ∀ m ∈ partsAll l left, m.length = l.length ∧ ∀ x ∈ m, 0 ≤ x ∧ x ≤ 12 := by
  intro l
  induction l with
  | nil =>
    intro left _ m hm
    simp only [partsAll] at hm
    by_cases h : left = 0
    · rw [if_pos h, List.mem_singleton] at hm
      subst hm
      exact ⟨rfl, fun x hx => by cases hx⟩
    · rw [if_neg h] at hm; cases hm
  | cons b l ih =>
    intro left hl m hm
    simp only [partsAll] at hm
    obtain ⟨n, hn, hm⟩ := List.mem_flatMap.1 hm
    obtain ⟨r, hr, rfl⟩ := List.mem_map.1 hm
    have hn2 := List.mem_range'_1.1 hn
    have := mn_le left b.f0
    obtain ⟨h1, h2⟩ := ih (left - (n : Int)) (by omega) r hr
    refine ⟨by rw [List.length_cons, List.length_cons, h1], fun x hx => ?_⟩
    rcases List.mem_cons.1 hx with rfl | hx
    · omega
    · exact h2 x hx
theorem partsAll_len : ∀ (l : List S63) (left : Int), left ≤ 12 → (partsAll l left).length ≤ 13 ^ l.length := by
  intro l
  induction l with
  | nil => intro left _; simp only [partsAll]; split <;> simp
  | cons b l ih =>
    intro left hl
    have := mn_le left b.f0
    have h := flatMap_le (fun (n : Nat) => (partsAll l (left - (n : Int))).map fun r => (n : Int) :: r) (13 ^ l.length) (List.range' 0 (mn left b.f0 + 1).toNat) (fun n hn => by
      rw [List.length_map]
      exact ih _ (by omega))
    rw [List.length_range'] at h
    simp only [partsAll]
    rw [List.length_cons, Nat.pow_succ, Nat.mul_comm (13 ^ l.length)]
    exact Nat.le_trans h (Nat.mul_le_mul_right _ (by omega))
theorem l1Least_mn (a b : Int) : spec_l1Least.f a b = some (mn a b) := by
  unfold spec_l1Least.f mn
  by_cases h : a < b
  · rw [if_pos h, if_neg (by omega)]
  · rw [if_neg h]
    by_cases h2 : b < a
    · rw [if_pos h2]
    · rw [if_neg h2]; congr 1; omega
theorem blAll_ev : ∀ (l : List S63), l.length ≤ 6 → ∀ (left : Int), 0 ≤ left → left ≤ 12 → ∃ K, ∀ k, K ≤ k → spec_blAll.f k l left = some (partsAll l left) := by
  intro l
  induction l with
  | nil =>
    intro _ left _ _
    refine ev_suc 0 fun k _ => ?_
    simp only [spec_blAll.f, partsAll, List.length_nil]
    rw [if_pos (by rfl)]
    by_cases h : left = 0
    · rw [if_pos h, if_pos h]
    · rw [if_neg h, if_neg h]
  | cons b l ih =>
    intro hl6 left hl0 hl12
    rw [List.length_cons] at hl6
    have hmn := mn_le left b.f0
    obtain ⟨T, hT⟩ : ∃ T, T = (mn left b.f0 + 1).toNat := ⟨_, rfl⟩
    have hT13 : T ≤ 13 := by omega
    have hp : 13 ^ l.length ≤ 371293 := Nat.le_trans (Nat.pow_le_pow_right (by omega) (show l.length ≤ 5 by omega)) (by decide)
    have hlen : ∀ i, i ≤ T → (((List.range' 0 T).take i).flatMap fun (n : Nat) => (partsAll l (left - (n : Int))).map fun r => (n : Int) :: r).length ≤ 13 * 371293 := by
      intro i hi
      have h := flatMap_le (fun (n : Nat) => (partsAll l (left - (n : Int))).map fun r => (n : Int) :: r) 371293 ((List.range' 0 T).take i) (fun n _ => by
        rw [List.length_map]
        exact Nat.le_trans (partsAll_len l _ (by omega)) hp)
      rw [List.length_take, List.length_range'] at h
      exact Nat.le_trans h (Nat.mul_le_mul_right _ (by omega))
    have hpos : (0 : Int) < ((b :: l).length : Int) := by rw [List.length_cons]; omega
    have hb0 : rd_T63 (b :: l) 0 = b := rfl
    have h := ev_loop (F := fun k i => spec_blAll.l0 k (b :: l) left (((List.range' 0 T).take i).flatMap fun (n : Nat) => (partsAll l (left - (n : Int))).map fun r => (n : Int) :: r) (i : Int)) (n := T) (res := fun _ => partsAll (b :: l) left)
      (ev_suc 0 fun k _ => by
        simp only [spec_blAll.l0]
        rw [if_pos hpos, l1Least_mn, hb0]
        simp only [Option.bind_some]
        rw [if_neg (by omega), List.take_of_length_le (by simp), partsAll, hT])
      (fun i hi K hK => by
        obtain ⟨K2, h2⟩ := ih (by omega) (left - (i : Int)) (by omega) (by omega)
        obtain ⟨R, hR⟩ : ∃ R, R = partsAll l (left - (i : Int)) := ⟨_, rfl⟩
        rw [← hR] at h2
        have hRl : R.length ≤ 371293 := by rw [hR]; exact Nat.le_trans (partsAll_len l _ (by omega)) hp
        have hRm : ∀ m ∈ R, m.length ≤ 6 := fun m hm => by
          have := (partsAll_mem l (left - (i : Int)) (by omega) m (by rw [← hR]; exact hm)).1
          omega
        have htk : (List.range' 0 T).take (i + 1) = (List.range' 0 T).take i ++ [i] := by rw [List.take_succ_eq_append_getElem (by simpa using hi)]; simp
        rw [htk, List.flatMap_append, List.flatMap_cons, List.flatMap_nil, List.append_nil, ← hR] at hK
        have hl1 := hlen i (by omega)
        generalize (((List.range' 0 T).take i).flatMap fun (n : Nat) => (partsAll l (left - (n : Int))).map fun r => (n : Int) :: r) = acc at hK hl1 ⊢
        have h3 := ev_loop (F := fun k j => spec_blAll.l1 k (b :: l) left (acc ++ (R.take j).map fun r => (i : Int) :: r) (i : Int) R (R.length : Int) (j : Int)) (n := R.length) (res := fun _ => partsAll (b :: l) left)
          (ev_suc K fun k hk => by
            simp only [spec_blAll.l1]
            rw [if_neg (by omega), List.take_of_length_le (Nat.le_refl _), w64s (by omega)]
            exact hK k hk)
          (fun j hj K3 hK3 => ev_suc K3 fun k hk => by
            have hm := hRm _ (List.getElem_mem hj)
            have hK4 := hK3 k hk
            rw [List.take_succ_eq_append_getElem hj, List.map_append, List.map_cons, List.map_nil, ← List.append_assoc] at hK4
            simp only [spec_blAll.l1]
            rw [if_pos (by omega), if_pos (by omega), if_pos (by omega), rdLLp R j hj]
            simp only [Option.bind_some]
            rw [if_pos (by simp only [List.length_cons, List.length_nil]; omega), if_pos (by rw [List.length_append, List.length_map, List.length_take]; omega), w64s (by omega)]
            exact hK4) 0 (Nat.zero_le _)
        obtain ⟨K3, h3⟩ := h3
        refine ev_suc (K2 + K3) fun k hk => ?_
        simp only [spec_blAll.l0]
        rw [if_pos hpos, l1Least_mn, hb0]
        simp only [Option.bind_some]
        rw [if_pos (by omega), if_pos (by rw [List.length_cons]; omega), w64 (by omega) (by omega)]
        have h2' := h2 k (by omega)
        rw [show (b :: l).drop 1 = l from rfl, h2']
        have h3' := h3 k (by omega)
        simpa using h3') 0 (Nat.zero_le _)
    obtain ⟨K, h⟩ := h
    refine ev_suc K fun k hk => ?_
    simp only [spec_blAll.f]
    rw [if_neg (by omega)]
    simpa using h k hk
/-- The filling calls the function for all parts, in their order. -/
theorem fill_parts {σ : Type} (L : List S63) (step : σ → List Int → Option σ) : ∀ (d : Nat) (l : List S63) (left : Int) (M : List Int) (p : List Int), l.length = d → L.drop p.length = l → p.length + d = L.length → M.length = L.length → M.take p.length = p →
    ∃ M' : List Int, M'.length = L.length ∧ M'.take p.length = p ∧ ∀ s, partF L step d left M s = (foldO step s ((partsAll l left).map fun r => p ++ r)).bind fun s' => some (M', s') := by
  intro d
  induction d with
  | zero =>
    intro l left M p hl hd hp hM ht
    obtain rfl : l = [] := List.length_eq_zero_iff.1 hl
    have hMp : M = p := by rw [← ht, List.take_of_length_le (by omega)]
    refine ⟨M, hM, ht, fun s => ?_⟩
    simp only [partF, partsAll]
    by_cases h : left = 0
    · rw [if_pos h, if_pos h]
      simp only [List.map_cons, List.map_nil, List.append_nil, foldO]
      rw [hMp]
      cases step s p <;> rfl
    · rw [if_neg h, if_neg h]
      rfl
  | succ d ih =>
    intro l left M p hl hd hp hM ht
    cases l with
    | nil => cases hl
    | cons b l =>
      rw [List.length_cons] at hl
      have hlt : p.length < L.length := by omega
      have hb : rd_T63 L ((p.length : Nat) : Int) = b := by
        rw [rdB_nat L p.length hlt]
        have h := List.drop_eq_getElem_cons hlt
        rw [hd] at h
        exact (List.cons.inj h).1.symm
      have hdl : L.drop (p.length + 1) = l := by
        have h := List.drop_eq_getElem_cons hlt
        rw [hd] at h
        exact (List.cons.inj h).2.symm
      have key : ∀ e n, ∀ M1 : List Int, M1.length = L.length → M1.take p.length = p → ∃ M' : List Int, M'.length = L.length ∧ M'.take p.length = p ∧ ∀ s, partK (partF L step d) p.length left e n M1 s = (foldO step s (((List.range' n e).flatMap fun (j : Nat) => (partsAll l (left - (j : Int))).map fun r => (j : Int) :: r).map fun r => p ++ r)).bind fun s' => some (M', s') := by
        intro e
        induction e with
        | zero => intro n M1 h1 h2; exact ⟨M1, h1, h2, fun s => rfl⟩
        | succ e ihe =>
          intro n M1 h1 h2
          have hset : (M1.set p.length (n : Int)).take (p ++ [(n : Int)]).length = p ++ [(n : Int)] := by
            rw [List.length_append, List.length_singleton, List.take_succ_eq_append_getElem (by rw [List.length_set]; omega), List.getElem_set_self, List.take_set_of_le (Nat.le_refl _), h2]
          obtain ⟨M2, m1, m2, m3⟩ := ih l (left - (n : Int)) (M1.set p.length (n : Int)) (p ++ [(n : Int)]) (by omega) (by rw [List.length_append, List.length_singleton]; exact hdl) (by rw [List.length_append, List.length_singleton]; omega) (by rw [List.length_set]; exact h1) hset
          have m2' : M2.take p.length = p := by
            have h5 := congrArg (List.take p.length) m2
            rw [List.take_take, List.length_append, List.length_singleton, Nat.min_eq_left (by omega)] at h5
            rw [h5]
            simp
          obtain ⟨M3, n1, n2, n3⟩ := ihe (n + 1) M2 m1 m2'
          refine ⟨M3, n1, n2, fun s => ?_⟩
          simp only [partK]
          rw [m3 s, List.range'_succ, List.flatMap_cons, List.map_append, foldO_append, List.map_map]
          have e1 : ((fun r => p ++ r) ∘ fun r => (n : Int) :: r) = fun r => (p ++ [(n : Int)]) ++ r := by funext r; simp
          rw [e1]
          cases foldO step s ((partsAll l (left - (n : Int))).map fun r => p ++ [(n : Int)] ++ r) with
          | none => rfl
          | some s1 =>
            simp only [Option.bind_some]
            exact n3 s1
      obtain ⟨M', h1, h2, h3⟩ := key (mn left b.f0 + 1).toNat 0 M hM ht
      refine ⟨M'.set p.length 0, by rw [List.length_set]; exact h1, by rw [List.take_set_of_le (Nat.le_refl _)]; exact h2, fun s => ?_⟩
      simp only [partF, partsAll]
      rw [show L.length - (d + 1) = p.length from by omega, hb, h3 s]
      cases foldO step s (((List.range' 0 (mn left b.f0 + 1).toNat).flatMap fun (j : Nat) => (partsAll l (left - (j : Int))).map fun r => (j : Int) :: r).map fun r => p ++ r) <;> rfl
theorem fill_start {σ : Type} (L : List S63) (step : σ → List Int → Option σ) (left : Int) (s : σ) : ∃ M' : List Int, partF L step L.length left (List.replicate L.length 0) s = (foldO step s (partsAll L left)).bind fun s' => some (M', s') := by
  obtain ⟨M', _, _, h⟩ := fill_parts L step L.length L left (List.replicate L.length 0) [] rfl rfl (by simp) (by simp) (by simp)
  refine ⟨M', ?_⟩
  have h2 := h s
  simpa using h2
def sumL (s : Int × Int × Int × Int) : List Int := [s.1, s.2.1, s.2.2.1, s.2.2.2]
theorem blSums_ev (l : List S63) (p : List Int) (hl : l.length ≤ 1048576) (hp : p.length = l.length) (hx : ∀ x ∈ p, 0 ≤ x ∧ x ≤ 12) : ∃ K, ∀ k, K ≤ k → spec_blSums.f k l p = some (sumL (sumsTo l p p.length)) := by
  have h := ev_loop (F := fun k i => spec_blSums.l0 k p (sumL (sumsTo l p i)) l (l.length : Int) (i : Int)) (n := l.length) (res := fun _ => sumL (sumsTo l p p.length))
    (ev_suc 0 fun k _ => by simp only [spec_blSums.l0]; rw [if_neg (by omega), hp])
    (fun i hi K hK => by
      refine ⟨K + 10, fun k hk => ?_⟩
      obtain ⟨k, rfl⟩ : ∃ m, k = m + 6 := ⟨k - 6, by omega⟩
      have hr : 0 ≤ rd p (i : Int) ∧ rd p (i : Int) ≤ 12 := by
        have e : rd p (i : Int) = p[i]'(by omega) := by simp [rd, List.getD_eq_getElem?_getD, show i < p.length by omega]
        rw [e]
        exact hx _ (List.getElem_mem _)
      have hK2 := hK k (by omega)
      simp only [sumsTo, sumL] at hK2 ⊢
      generalize (sumsTo l p i).1 = s0 at hK2 ⊢
      generalize (sumsTo l p i).2.1 = s1 at hK2 ⊢
      generalize (sumsTo l p i).2.2.1 = s2 at hK2 ⊢
      generalize (sumsTo l p i).2.2.2 = s3 at hK2 ⊢
      simp only [spec_blSums.l0]
      rw [if_pos (by omega), if_pos (by omega), if_pos (by omega)]
      simp only [Option.bind_some]
      have c1 : (i : Int) < (p.length : Int) := by omega
      have c0 : (0 : Int) ≤ (i : Int) := by omega
      simp only [spec_blSums.l1, List.length_cons, List.length_nil, c0, c1, if_true]
      have t1 : wrap64 1 = 1 := w64 (by omega) (by omega)
      have t2 : wrap64 2 = 2 := w64 (by omega) (by omega)
      have t3 : wrap64 3 = 3 := w64 (by omega) (by omega)
      have t4 : wrap64 4 = 4 := w64 (by omega) (by omega)
      have ti : wrap64 ((i : Int) + 1) = (i : Int) + 1 := w64 (by omega) (by omega)
      have tr : wrap64 (rd p (i : Int)) = rd p (i : Int) := w64 (by omega) (by omega)
      simp [rd, t1, t2, t3, t4, ti] at hK2 tr ⊢
      rw [tr]
      exact hK2) 0 (Nat.zero_le _)
  obtain ⟨K, h⟩ := h
  refine ⟨K, fun k hk => ?_⟩
  unfold spec_blSums.f
  rw [if_pos (by decide)]
  exact h k hk
/-! The draws: every byte string gives some numbers. -/
def bytes (l : List Int) : Prop := ∀ x ∈ l, 0 ≤ x ∧ x ≤ 255
theorem bytes_of {l : List Int} (h : ∀ x ∈ l, (Lit.int .u8 x).wf = true) : bytes l := by
  exact fun x hx => bounds_u8 (h x hx)
theorem and255 (a : Int) : 0 ≤ Go.bits .and .u64 (IntKind.u64.wrap a / 1099511627776) 255 ∧ Go.bits .and .u64 (IntKind.u64.wrap a / 1099511627776) 255 ≤ 255 := by
  have hw : 0 ≤ IntKind.u64.wrap a ∧ IntKind.u64.wrap a ≤ 18446744073709551615 := bounds_u64 (wf_wrap .u64 a)
  obtain ⟨n, hn⟩ : ∃ n : Nat, IntKind.u64.wrap a / 1099511627776 = (n : Int) := ⟨(IntKind.u64.wrap a / 1099511627776).toNat, by omega⟩
  rw [hn, show (255 : Int) = ((255 : Nat) : Int) from rfl, bits_and_u64_nat n 255 (by omega) (by omega)]
  have := Nat.and_le_right (n := n) (m := 255)
  omega
theorem next_ok {l : List Int} (hl : bytes l) (hn : l.length ≤ maxLen) {p : Int} (s : Int) (h0 : 0 ≤ p) (h1 : p ≤ 4000000000000000000) : ∃ b s', spec_l1Cur_next.f l p s = some (b, p + 1, s') ∧ 0 ≤ b ∧ b ≤ 255 := by
  unfold maxLen at hn
  unfold spec_l1Cur_next.f
  rw [w64 (x := p + 1) (by omega) (by omega)]
  have ha : ∀ a : Int, 0 ≤ wrap64 (Go.bits .and .u64 (IntKind.u64.wrap a / 1099511627776) 255) ∧ wrap64 (Go.bits .and .u64 (IntKind.u64.wrap a / 1099511627776) 255) ≤ 255 := by
    intro a
    have := and255 a
    rw [w64 (by omega) (by omega)]
    exact this
  by_cases c : p < (l.length : Int)
  · obtain ⟨q, rfl⟩ : ∃ q : Nat, p = (q : Int) := ⟨p.toNat, by omega⟩
    have hb := hl _ (List.getElem_mem (by omega : q < l.length))
    rw [if_pos c, if_pos h0, rd_nat l q (by omega)]
    have e : wrap64 l[q] = l[q] := w64 (by omega) (by omega)
    split
    · exact ⟨_, _, rfl, by rw [e]; exact hb.1, by rw [e]; exact hb.2⟩
    · exact ⟨_, _, rfl, (ha _).1, (ha _).2⟩
  · rw [if_neg c]
    split
    · exact ⟨_, _, rfl, by omega, by omega⟩
    · exact ⟨_, _, rfl, (ha _).1, (ha _).2⟩
theorem pick_ok {l : List Int} (hl : bytes l) (hn : l.length ≤ maxLen) {p : Int} (s n : Int) (h0 : 0 ≤ p) (h1 : p ≤ 4000000000000000000 - 2) : ∃ x p' s', spec_l1Cur_pick.f l p s n = some (x, p', s') ∧ 0 ≤ x ∧ (x < n ∨ x = 0) ∧ x ≤ 65535 ∧ p ≤ p' ∧ p' ≤ p + 2 := by
  unfold spec_l1Cur_pick.f
  by_cases c : n ≤ 1
  · rw [if_pos c]
    exact ⟨_, _, _, rfl, by omega, .inr rfl, by omega, by omega, by omega⟩
  · rw [if_neg c]
    obtain ⟨b, s1, e1, b0, b1⟩ := next_ok hl hn s h0 (by omega)
    rw [e1]
    simp only [Option.bind_some]
    by_cases c2 : n > 200
    · obtain ⟨b', s2, e2, b2, b3⟩ := next_ok hl hn s1 (p := p + 1) (by omega) (by omega)
      rw [if_pos c2, e2]
      simp only [Option.bind_some]
      rw [if_neg (by omega), w64 (x := b * 256) (by omega) (by omega), w64 (by omega) (by omega), Int.tmod_eq_emod_of_nonneg (by omega)]
      have := Int.emod_nonneg (b * 256 + b') (b := n) (by omega)
      have := Int.emod_lt_of_pos (b * 256 + b') (b := n) (by omega)
      have := Int.mul_ediv_add_emod (b * 256 + b') n
      have := Int.mul_nonneg (a := n) (b := (b * 256 + b') / n) (by omega) (Int.ediv_nonneg (by omega) (by omega))
      exact ⟨_, _, _, rfl, by omega, .inl (by omega), by omega, by omega, by omega⟩
    · rw [if_neg c2, if_neg (by omega), Int.tmod_eq_emod_of_nonneg (by omega)]
      have := Int.emod_nonneg b (b := n) (by omega)
      have := Int.emod_lt_of_pos b (b := n) (by omega)
      exact ⟨_, _, _, rfl, by omega, .inl (by omega), by omega, by omega, by omega⟩
theorem among_ok {l : List Int} (hl : bytes l) (hn : l.length ≤ maxLen) {p : Int} (s : Int) (xs : List Int) (hx : xs ≠ []) (h0 : 0 ≤ p) (h1 : p ≤ 4000000000000000000 - 2) : ∃ x p' s', spec_l1Cur_among.f l p s xs = some (x, p', s') ∧ x ∈ xs ∧ p ≤ p' ∧ p' ≤ p + 2 := by
  unfold spec_l1Cur_among.f
  obtain ⟨x, p', s', e, x0, x1, _, p0, p1⟩ := pick_ok hl hn s (xs.length : Int) h0 h1
  have hp := List.length_pos_iff.2 hx
  obtain ⟨q, rfl⟩ : ∃ q : Nat, x = (q : Int) := ⟨x.toNat, by omega⟩
  rw [e]
  simp only [Option.bind_some]
  rw [if_pos x0, if_pos (by omega), rd_nat xs q (by omega)]
  exact ⟨_, _, _, rfl, List.getElem_mem _, p0, p1⟩

/-- Parts that fit their bins, one by one. -/
def FitR : List S63 → List Int → Prop
  | [], [] => True
  | b :: l, x :: p => (0 ≤ x ∧ x ≤ b.f0) ∧ FitR l p
  | _, _ => False
theorem fitR_iff : ∀ (l : List S63) (p : List Int), FitR l p ↔ p.length = l.length ∧ ∀ j, j < l.length → 0 ≤ rd p (j : Int) ∧ rd p (j : Int) ≤ (rd_T63 l (j : Int)).f0 := by
  intro l
  induction l with
  | nil =>
    intro p
    cases p with
    | nil => simp [FitR]
    | cons x p => simp [FitR]
  | cons b l ih =>
    intro p
    cases p with
    | nil => simp [FitR]
    | cons x p =>
      have hs : ∀ j : Nat, rd (x :: p) ((j + 1 : Nat) : Int) = rd p (j : Int) ∧ rd_T63 (b :: l) ((j + 1 : Nat) : Int) = rd_T63 l (j : Int) := fun j => by
        constructor
        · unfold rd; rw [Int.toNat_natCast, Int.toNat_natCast, List.getD_cons_succ]
        · unfold rd_T63; rw [Int.toNat_natCast, Int.toNat_natCast, List.getD_cons_succ]
      have h0 : rd (x :: p) ((0 : Nat) : Int) = x ∧ rd_T63 (b :: l) ((0 : Nat) : Int) = b := ⟨rfl, rfl⟩
      simp only [FitR, List.length_cons]
      rw [ih p]
      constructor
      · intro ⟨h1, h2, h3⟩
        refine ⟨by omega, fun j hj => ?_⟩
        cases j with
        | zero => rw [h0.1, h0.2]; exact h1
        | succ j => rw [(hs j).1, (hs j).2]; exact h3 j (by omega)
      · intro ⟨h1, h2⟩
        refine ⟨?_, by omega, fun j hj => ?_⟩
        · have := h2 0 (by omega)
          rw [h0.1, h0.2] at this
          exact this
        · have := h2 (j + 1) (by omega)
          rw [(hs j).1, (hs j).2] at this
          exact this
theorem fitFrom_iff (l : List S63) (p : List Int) : fitFrom l p 0 = true ↔ ∀ j, j < l.length → 0 ≤ rd p (j : Int) ∧ rd p (j : Int) ≤ (rd_T63 l (j : Int)).f0 := by
  unfold fitFrom
  simp only [List.all_eq_true, List.mem_map, List.mem_range, Nat.sub_zero, Nat.add_zero, fitAt, inr_iff]
  exact ⟨fun h j hj => h j ⟨j, hj, rfl⟩, fun h j ⟨a, ha, e⟩ => by rw [← e]; exact h a ha⟩
theorem partsOk_iff (l : List S63) (p : List Int) : partsOk l p = true ↔ binsOk l = true ∧ FitR l p := by
  unfold partsOk
  rw [fitR_iff, Bool.and_eq_true, Bool.and_eq_true, fitFrom_iff, decide_eq_true_eq]
theorem mn_ge (a b c : Int) (h1 : c ≤ a) (h2 : c ≤ b) : c ≤ mn a b := by unfold mn; split <;> omega
theorem fit_sum_nonneg : ∀ (l : List S63) (p : List Int), FitR l p → 0 ≤ p.sum := by
  intro l
  induction l with
  | nil => intro p h; cases p with | nil => simp | cons x p => exact h.elim
  | cons b l ih =>
    intro p h
    cases p with
    | nil => exact h.elim
    | cons x p => have := ih p h.2; rw [List.sum_cons]; have := h.1; omega
theorem partsAll_has : ∀ (l : List S63) (m : List Int), FitR l m → m ∈ partsAll l m.sum := by
  intro l
  induction l with
  | nil => intro m h; cases m with | nil => simp [partsAll] | cons x p => exact h.elim
  | cons b l ih =>
    intro m h
    cases m with
    | nil => exact h.elim
    | cons x p =>
      have h1 := fit_sum_nonneg l p h.2
      have h2 := ih p h.2
      have hx := h.1
      have h3 := mn_ge (x + p.sum) b.f0 x (by omega) hx.2
      simp only [partsAll, List.sum_cons]
      refine List.mem_flatMap.2 ⟨x.toNat, List.mem_range'_1.2 (by omega), List.mem_map.2 ⟨p, ?_, by congr 1; omega⟩⟩
      rw [show x + p.sum - (x.toNat : Int) = p.sum by omega]
      exact h2
theorem sums_units (l : List S63) (p : List Int) (hl : p.length ≤ 6) (hx : ∀ x ∈ p, 0 ≤ x ∧ x ≤ 12) : ∀ i, i ≤ p.length → (sumsTo l p i).1 = (p.take i).sum ∧ 0 ≤ (p.take i).sum ∧ (p.take i).sum ≤ 12 * (i : Int) := by
  intro i
  induction i with
  | zero => intro _; simp [sumsTo]
  | succ i ih =>
    intro hi
    obtain ⟨h1, h2, h3⟩ := ih (by omega)
    have hlt : i < p.length := by omega
    have := hx _ (List.getElem_mem hlt)
    rw [List.take_succ_eq_append_getElem hlt, List.sum_append, List.sum_cons, List.sum_nil]
    simp only [sumsTo]
    rw [rd_nat p i hlt, h1, w64 (by omega) (by omega)]
    omega
theorem parts_small {l : List S63} {p : List Int} (h : partsOk l p = true) : p.length = l.length ∧ l.length ≤ 6 ∧ ∀ x ∈ p, 0 ≤ x ∧ x ≤ 12 := by
  obtain ⟨h1, h2⟩ := (partsOk_iff l p).1 h
  obtain ⟨g1, g2, g3⟩ := (binsOk_iff l).1 h1
  obtain ⟨f1, f2⟩ := (fitR_iff l p).1 h2
  refine ⟨f1, g3, fun x hx => ?_⟩
  obtain ⟨i, hi, rfl⟩ := List.mem_iff_getElem.1 hx
  have := f2 i (by omega)
  rw [rd_nat p i hi, rdB_nat l i (by omega)] at this
  have hb := (binOk_iff _).1 (g1 _ (List.getElem_mem (show i < l.length by omega)))
  omega
theorem blendSums_ev (l : List S63) (p : List Int) (hl : l.length ≤ 1048576) (hp : p.length ≤ 1048576) (hk : partsOk l p = true) : ∃ K, ∀ k, K ≤ k → impl_BlendSums.f k l p = some ((sumsTo l p p.length).1, (sumsTo l p p.length).2.1, (sumsTo l p p.length).2.2.1, (sumsTo l p p.length).2.2.2, true) := by
  obtain ⟨K1, h1⟩ := areBins_ev l hl
  obtain ⟨K3, h3⟩ := areParts_ev l p hl hp
  obtain ⟨g1, g2, g3⟩ := parts_small hk
  have hk2 := hk
  unfold partsOk at hk2
  rw [Bool.and_eq_true] at hk2
  refine ⟨K1 + K3, fun k hk' => ?_⟩
  unfold impl_BlendSums.f
  rw [h1 k (by omega)]
  simp only [Option.bind_some]
  rw [if_pos hk2.1, h3 k (by omega)]
  simp only [Option.bind_some]
  rw [if_pos hk2.2, if_pos (by omega)]
theorem one_ok {l : List Int} (hl : bytes l) (hn : l.length ≤ maxLen) {p : Int} (s n : Int) (h0 : 0 ≤ p) (h1 : p ≤ 3000000000000000000) : ∃ x p' s', spec_l1Cur_one.f l p s n = some (x, p', s') ∧ p ≤ p' ∧ p' ≤ p + 2 := by
  unfold spec_l1Cur_one.f
  obtain ⟨x, p', s', e, _, _, _, q, r⟩ := pick_ok hl hn s n h0 (by omega)
  rw [e]; exact ⟨_, _, _, rfl, q, r⟩
theorem bins_l0 {l : List Int} (hl : bytes l) (hn : l.length ≤ maxLen) {n : Nat} (hnn : n ≤ 7) : ∀ (d i : Nat) (x : List S63) (p s : Int), i + d = n → x.length = i → 0 ≤ p → p ≤ 1000 + 100 * (i : Int) → ∃ r : List S63 × Int × Int, (r.1.length ≤ 7 ∧ 0 ≤ r.2.1 ∧ r.2.1 ≤ 3000) ∧ ∃ K, ∀ k, K ≤ k → spec_l1Cur_bins.l0 k x (n : Int) l p s = some r := by
  intro d
  induction d with
  | zero =>
    intro i x p s hi hx h0 h1
    by_cases hz : 0 < x.length
    · obtain ⟨b, p1, s1, e1, a1, b1, _, q1, r1⟩ := pick_ok hl hn s (x.length : Int) h0 (by omega)
      obtain ⟨c, p2, s2, e2, a2, b2, _, q2, r2⟩ := pick_ok hl hn s1 24 (p := p1) (by omega) (by omega)
      obtain ⟨v, p3, s3, e3, _, q3, r3⟩ := among_ok hl hn s2 [(-1), 12, 13] (by simp) (p := p2) (by omega) (by omega)
      obtain ⟨v', p4, s4, e4, _, q4, r4⟩ := among_ok hl hn s2 [(-1), 1000, 1001] (by simp) (p := p2) (by omega) (by omega)
      have hun : ∀ k, spec_l1Cur_bins.l0 (k + 1) x (n : Int) l p s = some (if c = 0 then (x.set b.toNat ⟨v, (rd_T63 x b).f1, (rd_T63 x b).f2, (rd_T63 x b).f3⟩, p3, s3) else if c = 1 then (x.set b.toNat ⟨(rd_T63 x b).f0, v', (rd_T63 x b).f2, (rd_T63 x b).f3⟩, p4, s4) else if c = 2 then (x.set b.toNat ⟨(rd_T63 x b).f0, (rd_T63 x b).f1, v', (rd_T63 x b).f3⟩, p4, s4) else if c = 3 then (x.set b.toNat ⟨(rd_T63 x b).f0, (rd_T63 x b).f1, (rd_T63 x b).f2, v'⟩, p4, s4) else (x, p2, s2)) := by
        intro k
        simp only [spec_l1Cur_bins.l0]
        rw [if_neg (by omega), if_pos (by omega), e1]
        simp only [Option.bind_some]
        rw [if_pos (by omega), if_pos (by omega), e2]
        simp only [Option.bind_some]
        by_cases c0 : c = 0
        · rw [if_pos c0, if_pos c0, e3]; rfl
        · rw [if_neg c0, if_neg c0]
          by_cases c1 : c = 1
          · rw [if_pos c1, if_pos c1, e4]; rfl
          · rw [if_neg c1, if_neg c1]
            by_cases c2 : c = 2
            · rw [if_pos c2, if_pos c2, e4]; rfl
            · rw [if_neg c2, if_neg c2]
              by_cases c3 : c = 3
              · rw [if_pos c3, if_pos c3, e4]; rfl
              · rw [if_neg c3, if_neg c3]
      refine ⟨_, ?_, ev_suc 0 fun k _ => hun k⟩
      have T : ∀ (z : List S63) (a b : Int), z.length ≤ 7 → 0 ≤ a → a ≤ 3000 → (z, a, b).1.length ≤ 7 ∧ 0 ≤ (z, a, b).2.1 ∧ (z, a, b).2.1 ≤ 3000 := fun z a b h1 h2 h3 => ⟨h1, h2, h3⟩
      by_cases c0 : c = 0
      · rw [if_pos c0]; exact T _ _ _ (by rw [List.length_set]; omega) (by omega) (by omega)
      · rw [if_neg c0]
        by_cases c1 : c = 1
        · rw [if_pos c1]; exact T _ _ _ (by rw [List.length_set]; omega) (by omega) (by omega)
        · rw [if_neg c1]
          by_cases c2 : c = 2
          · rw [if_pos c2]; exact T _ _ _ (by rw [List.length_set]; omega) (by omega) (by omega)
          · rw [if_neg c2]
            by_cases c3 : c = 3
            · rw [if_pos c3]; exact T _ _ _ (by rw [List.length_set]; omega) (by omega) (by omega)
            · rw [if_neg c3]; exact T _ _ _ (by omega) (by omega) (by omega)
    · refine ⟨(x, p, s), ⟨by simp only; omega, by simp only; omega, by simp only; omega⟩, ev_suc 0 fun k _ => ?_⟩
      simp only [spec_l1Cur_bins.l0]
      rw [if_neg (by omega), if_neg (by omega)]
  | succ d ih =>
    intro i x p s hi hx h0 h1
    obtain ⟨y1, p1, s1, e1, _, _, _, q1, r1⟩ := pick_ok hl hn s 7 h0 (by omega)
    obtain ⟨y2, p2, s2, e2, _, _, _, q2, r2⟩ := pick_ok hl hn s1 900 (p := p1) (by omega) (by omega)
    obtain ⟨y3, p3, s3, e3, _, q3, r3⟩ := among_ok hl hn s2 [0, 10, 40, 100, y2] (by simp) (p := p2) (by omega) (by omega)
    obtain ⟨y4, p4, s4, e4, _, _, _, q4, r4⟩ := pick_ok hl hn s3 300 (p := p3) (by omega) (by omega)
    obtain ⟨y5, p5, s5, e5, _, q5, r5⟩ := among_ok hl hn s4 [0, 5, 20, y4] (by simp) (p := p4) (by omega) (by omega)
    obtain ⟨y6, p6, s6, e6, _, q6, r6⟩ := among_ok hl hn s5 [0, 1, 3, 10, 10] (by simp) (p := p5) (by omega) (by omega)
    obtain ⟨r, hR, K, h⟩ := ih (i + 1) (x ++ [⟨y1, y3, y5, y6⟩]) p6 s6 (by omega) (by simp; omega) (by omega) (by omega)
    refine ⟨r, hR, ev_suc K fun k hk => ?_⟩
    simp only [spec_l1Cur_bins.l0]
    rw [if_pos (by omega), e1]
    simp only [Option.bind_some]
    rw [e2]
    simp only [Option.bind_some]
    rw [e3]
    simp only [Option.bind_some]
    rw [e4]
    simp only [Option.bind_some]
    rw [e5]
    simp only [Option.bind_some]
    rw [e6]
    simp only [Option.bind_some]
    rw [if_pos (by omega)]
    exact h k hk
theorem bins_ok {l : List Int} (hl : bytes l) (hn : l.length ≤ maxLen) (s : Int) : ∃ x p' s', (∃ K, ∀ k, K ≤ k → spec_l1Cur_bins.f k l 0 s = some (x, p', s')) ∧ x.length ≤ 7 ∧ 0 ≤ p' ∧ p' ≤ 3000 := by
  obtain ⟨b, p1, s1, e1, a1, b1, _, q1, r1⟩ := pick_ok hl hn s 4 (p := 0) (by omega) (by omega)
  obtain ⟨o, p2, s2, e2, q2, r2⟩ := one_ok hl hn s1 16 (p := p1) (by omega) (by omega)
  obtain ⟨v, p3, s3, e3, hv, q3, r3⟩ := among_ok hl hn s2 [0, 6, 7] (by simp) (p := p2) (by omega) (by omega)
  have hv2 : 0 ≤ v ∧ v ≤ 7 := by simp at hv; omega
  have hw : wrap64 (1 + b) = 1 + b := w64 (by omega) (by omega)
  cases o with
  | true =>
    obtain ⟨n, rfl⟩ : ∃ n : Nat, v = (n : Int) := ⟨v.toNat, by omega⟩
    obtain ⟨r, ⟨R1, R2, R3⟩, K, h⟩ := bins_l0 hl hn (n := n) (by omega) n 0 [] p3 s3 (by omega) rfl (by omega) (by omega)
    refine ⟨r.1, r.2.1, r.2.2, ⟨K + 1, fun k hk => ?_⟩, R1, R2, R3⟩
    obtain ⟨j, rfl⟩ : ∃ j, k = j + 1 := ⟨k - 1, by omega⟩
    unfold spec_l1Cur_bins.f
    rw [e1]
    simp only [Option.bind_some]
    rw [e2]
    simp only [Option.bind_some]
    rw [if_pos trivial, e3]
    simp only [Option.bind_some, spec_l1Cur_bins.j0]
    exact h j (by omega)
  | false =>
    obtain ⟨n, hn2⟩ : ∃ n : Nat, 1 + b = (n : Int) := ⟨(1 + b).toNat, by omega⟩
    obtain ⟨r, ⟨R1, R2, R3⟩, K, h⟩ := bins_l0 hl hn (n := n) (by omega) n 0 [] p2 s2 (by omega) rfl (by omega) (by omega)
    refine ⟨r.1, r.2.1, r.2.2, ⟨K + 1, fun k hk => ?_⟩, R1, R2, R3⟩
    obtain ⟨j, rfl⟩ : ∃ j, k = j + 1 := ⟨k - 1, by omega⟩
    unfold spec_l1Cur_bins.f
    rw [e1]
    simp only [Option.bind_some]
    rw [e2]
    simp only [Option.bind_some]
    rw [if_neg (by simp), hw, hn2]
    simp only [spec_l1Cur_bins.j0]
    exact h j (by omega)
theorem partsOf_l0 {l : List Int} (hl : bytes l) (hn : l.length ≤ maxLen) (b : List S63) (hb : b.length ≤ 7) (P0 : Int) (hP0 : 0 ≤ P0) (hP1 : P0 ≤ 1000000) : ∀ (d i : Nat) (x : List Int) (p s : Int), i + d = b.length → x.length = i → 0 ≤ p → p ≤ P0 + 10 * (i : Int) → ∃ r : List Int × Int × Int, (r.1.length ≤ 8 ∧ 0 ≤ r.2.1 ∧ r.2.1 ≤ P0 + 1000) ∧ ∃ K, ∀ k, K ≤ k → spec_l1Cur_partsOf.l0 k b x b (b.length : Int) (i : Int) l p s = some r := by
  intro d
  induction d with
  | zero =>
    intro i x p s hi hx h0 h1
    by_cases hz : 0 < x.length
    · obtain ⟨c, p2, s2, e2, _, _, _, q2, r2⟩ := pick_ok hl hn s 24 h0 (by omega)
      obtain ⟨v, p3, s3, e3, _, q3, r3⟩ := among_ok hl hn s2 [(-1), (rd_T63 b 0).f0, wrap64 (((rd_T63 b 0).f0) + 1)] (by simp) (p := p2) (by omega) (by omega)
      have T : ∀ (z : List Int) (a b : Int), z.length ≤ 8 → 0 ≤ a → a ≤ P0 + 1000 → (z, a, b).1.length ≤ 8 ∧ 0 ≤ (z, a, b).2.1 ∧ (z, a, b).2.1 ≤ P0 + 1000 := fun z a b h1 h2 h3 => ⟨h1, h2, h3⟩
      by_cases c0 : c = 0
      · refine ⟨(x.set (0 : Int).toNat v, p3, s3), T _ _ _ (by rw [List.length_set]; omega) (by omega) (by omega), ev_suc 0 fun k _ => ?_⟩
        simp only [spec_l1Cur_partsOf.l0]
        rw [if_neg (by omega), if_pos (by omega), e2]
        simp only [Option.bind_some]
        rw [if_pos c0, if_pos (by omega), e3]
        simp only [Option.bind_some]
        rw [if_pos (by omega)]
      · by_cases c1 : c = 1
        · refine ⟨(x ++ [0], p2, s2), T _ _ _ (by rw [List.length_append, List.length_singleton]; omega) (by omega) (by omega), ev_suc 0 fun k _ => ?_⟩
          simp only [spec_l1Cur_partsOf.l0]
          rw [if_neg (by omega), if_pos (by omega), e2]
          simp only [Option.bind_some]
          rw [if_neg c0, if_pos c1, if_pos (by omega)]
        · refine ⟨(x, p2, s2), T _ _ _ (by omega) (by omega) (by omega), ev_suc 0 fun k _ => ?_⟩
          simp only [spec_l1Cur_partsOf.l0]
          rw [if_neg (by omega), if_pos (by omega), e2]
          simp only [Option.bind_some]
          rw [if_neg c0, if_neg c1]
    · refine ⟨(x, p, s), ⟨by simp only; omega, by simp only; omega, by simp only; omega⟩, ev_suc 0 fun k _ => ?_⟩
      simp only [spec_l1Cur_partsOf.l0]
      rw [if_neg (by omega), if_neg (by omega)]
  | succ d ih =>
    intro i x p s hi hx h0 h1
    obtain ⟨t, et⟩ : ∃ t, spec_l1Most.f 0 ((rd_T63 b (i : Int)).f0) = some t := by
      unfold spec_l1Most.f
      split
      · exact ⟨_, rfl⟩
      · exact ⟨_, rfl⟩
    obtain ⟨y1, p1, s1, e1, _, _, _, q1, r1⟩ := pick_ok hl hn s (wrap64 (t + 1)) h0 (by omega)
    obtain ⟨r, hR, K, h⟩ := ih (i + 1) (x ++ [y1]) p1 s1 (by omega) (by simp; omega) (by omega) (by omega)
    refine ⟨r, hR, ev_suc K fun k hk => ?_⟩
    simp only [spec_l1Cur_partsOf.l0]
    rw [if_pos (by omega), if_pos (by omega), if_pos (by omega), et]
    simp only [Option.bind_some]
    rw [e1]
    simp only [Option.bind_some]
    rw [if_pos (by omega), w64s (by omega)]
    exact h k hk
theorem partsOf_ok {l : List Int} (hl : bytes l) (hn : l.length ≤ maxLen) {p : Int} (s : Int) (b : List S63) (hb : b.length ≤ 7) (h0 : 0 ≤ p) (h1 : p ≤ 1000000) : ∃ x p' s', (∃ K, ∀ k, K ≤ k → spec_l1Cur_partsOf.f k l p s b = some (x, p', s')) ∧ x.length ≤ 8 ∧ 0 ≤ p' ∧ p' ≤ p + 1000 := by
  obtain ⟨r, ⟨R1, R2, R3⟩, K, h⟩ := partsOf_l0 hl hn b hb p h0 h1 b.length 0 [] p s (by omega) rfl h0 (by omega)
  refine ⟨r.1, r.2.1, r.2.2, ⟨K, fun k hk => ?_⟩, R1, R2, R3⟩
  unfold spec_l1Cur_partsOf.f
  exact h k hk
/-- The least and the greatest of a sum over parts, as both sides find them. -/
def edgeTT (g : List Int → Int) (s : Option (Int × Int)) (m : List Int) : Option (Int × Int) :=
  match s with
  | none => some (g m, g m)
  | some q => some (if g m < q.1 then g m else q.1, if g m > q.2 then g m else q.2)
def edgeSp (s : Option (Int × Int)) : Int × Int × Bool := match s with | none => (0, 0, false) | some q => (q.1, q.2, true)
def edgeIm (s : Option (Int × Int)) : Int × Int := match s with | none => (-1, -1) | some q => q
def edgeOk (s : Option (Int × Int)) : Prop := ∀ q, s = some q → 0 ≤ q.1 ∧ q.1 ≤ q.2
theorem edge_step {g : List Int → Int} {s : Option (Int × Int)} {m : List Int} (hs : edgeOk s) (hm : 0 ≤ g m) : ∃ q, edgeTT g s m = some q ∧ (0 ≤ q.1 ∧ q.1 ≤ q.2) ∧ (q.1 ≤ g m ∧ g m ≤ q.2) ∧ ∀ q0, s = some q0 → q.1 ≤ q0.1 ∧ q0.2 ≤ q.2 := by
  cases s with
  | none => exact ⟨(g m, g m), rfl, ⟨hm, Int.le_refl _⟩, ⟨Int.le_refl _, Int.le_refl _⟩, fun q0 h => by cases h⟩
  | some q =>
    obtain ⟨h1, h2⟩ := hs q rfl
    refine ⟨_, rfl, ?_, ?_, fun q0 h => ?_⟩
    · simp only; constructor
      · split <;> omega
      · split <;> split <;> omega
    · simp only; constructor
      · split <;> omega
      · split <;> omega
    · obtain rfl := Option.some.inj h
      simp only; constructor
      · split <;> omega
      · split <;> omega
theorem edge_ok {g : List Int → Int} {s : Option (Int × Int)} {m : List Int} (hs : edgeOk s) (hm : 0 ≤ g m) : edgeOk (edgeTT g s m) := by
  obtain ⟨q, e, h, _⟩ := edge_step hs hm
  intro q' h'
  rw [e] at h'
  obtain rfl := Option.some.inj h'
  exact h
theorem edge_fold {g : List Int → Int} : ∀ (L : List (List Int)) (s : Option (Int × Int)), (∀ m ∈ L, 0 ≤ g m) → edgeOk s →
    edgeOk (L.foldl (edgeTT g) s) ∧ (∀ q0, s = some q0 → ∃ q, L.foldl (edgeTT g) s = some q ∧ q.1 ≤ q0.1 ∧ q0.2 ≤ q.2) ∧ ∀ m ∈ L, ∃ q, L.foldl (edgeTT g) s = some q ∧ q.1 ≤ g m ∧ g m ≤ q.2 := by
  intro L
  induction L with
  | nil => intro s _ hs; exact ⟨hs, fun q0 h => ⟨q0, h, Int.le_refl _, Int.le_refl _⟩, fun m hm => by cases hm⟩
  | cons m L ih =>
    intro s hL hs
    have hm := hL m List.mem_cons_self
    obtain ⟨q, e, h1, h2, h3⟩ := edge_step hs hm
    obtain ⟨i1, i2, i3⟩ := ih (edgeTT g s m) (fun x hx => hL x (List.mem_cons_of_mem _ hx)) (edge_ok hs hm)
    rw [List.foldl_cons]
    obtain ⟨q1, e1, g1, g2⟩ := i2 q e
    refine ⟨i1, fun q0 h => ⟨q1, e1, ?_⟩, fun x hx => ?_⟩
    · have := h3 q0 h
      omega
    · rcases List.mem_cons.1 hx with h | hx
      · subst h
        exact ⟨q1, e1, by omega, by omega⟩
      · exact i3 x hx
theorem foldO_edge {σ : Type} (step : σ → List Int → Option σ) (F : Option (Int × Int) → σ) (g : List Int → Int) (hs : ∀ t m, edgeOk t → 0 ≤ g m → step (F t) m = some (F (edgeTT g t m))) : ∀ (L : List (List Int)) (t : Option (Int × Int)), (∀ m ∈ L, 0 ≤ g m) → edgeOk t → foldO step (F t) L = some (F (L.foldl (edgeTT g) t)) := by
  intro L
  induction L with
  | nil => intro t _ _; rfl
  | cons m L ih =>
    intro t hL ht
    have hm := hL m List.mem_cons_self
    simp only [foldO, List.foldl_cons]
    rw [hs t m ht hm]
    exact ih _ (fun x hx => hL x (List.mem_cons_of_mem _ hx)) (edge_ok ht hm)
theorem sums_all (l : List S63) (hb : ∀ x ∈ l, binOk x = true) (hl : l.length ≤ 6) (p : List Int) (hp : p.length = l.length) (hx : ∀ x ∈ p, 0 ≤ x ∧ x ≤ 12) : ∀ i, i ≤ l.length →
    (0 ≤ (sumsTo l p i).2.1 ∧ (sumsTo l p i).2.1 ≤ 12000 * (i : Int)) ∧ (0 ≤ (sumsTo l p i).2.2.1 ∧ (sumsTo l p i).2.2.1 ≤ 12000 * (i : Int)) := by
  intro i
  induction i with
  | zero => intro _; simp [sumsTo]
  | succ i ih =>
    intro hi
    obtain ⟨⟨a1, a2⟩, a3, a4⟩ := ih (by omega)
    have e : rd p (i : Int) = p[i]'(by omega) := by simp [rd, List.getD_eq_getElem?_getD, show i < p.length by omega]
    have hr := hx _ (List.getElem_mem (show i < p.length by omega))
    rw [← e] at hr
    have hB := (binOk_iff _).1 (hb _ (List.getElem_mem (show i < l.length by omega)))
    rw [← rdB_nat l i (by omega)] at hB
    have mul : ∀ f : Int, 0 ≤ f → f ≤ 1000 → 0 ≤ rd p (i : Int) * f ∧ rd p (i : Int) * f ≤ 12000 := fun f h0 h1 => ⟨Int.mul_nonneg hr.1 h0, by
      have h := Int.mul_le_mul hr.2 h1 h0 (by omega : (0 : Int) ≤ 12)
      omega⟩
    have m1 := mul _ hB.2.1.1 hB.2.1.2
    have m2 := mul _ hB.2.2.1.1 hB.2.2.1.2
    simp only [sumsTo]
    rw [w64 (x := rd p (i : Int) * (rd_T63 l (i : Int)).f1) (by omega) (by omega), w64 (x := rd p (i : Int) * (rd_T63 l (i : Int)).f2) (by omega) (by omega), w64 (x := (sumsTo l p i).2.1 + _) (by omega) (by omega), w64 (x := (sumsTo l p i).2.2.1 + _) (by omega) (by omega)]
    omega
theorem edge_some {g : List Int → Int} : ∀ (L : List (List Int)) (s : Option (Int × Int)), (L.foldl (edgeTT g) s).isSome = (s.isSome || !L.isEmpty) := by
  intro L
  induction L with
  | nil => intro s; simp
  | cons m L ih =>
    intro s
    rw [List.foldl_cons, ih]
    cases s <;> simp [edgeTT]
theorem parts_le {l : List S63} {u : Int} (hl6 : l.length ≤ 6) (hu12 : u ≤ 12) : (partsAll l u).length ≤ 4826809 := Nat.le_trans (Nat.le_trans (partsAll_len l u hu12) (Nat.pow_le_pow_right (by omega) hl6)) (by decide)
set_option maxHeartbeats 2000000 in
theorem blEdge_ev (l : List S63) (hb : ∀ x ∈ l, binOk x = true) (hl6 : l.length ≤ 6) (u kind : Int) (hu0 : 0 ≤ u) (hu12 : u ≤ 12) (hk : 0 ≤ kind ∧ kind < 4) :
    ∃ K, ∀ k, K ≤ k → spec_blEdge.f k l u kind = some (edgeSp ((partsAll l u).foldl (edgeTT fun m => rd (sumL (sumsTo l m m.length)) kind) none)) := by
  obtain ⟨P, hP⟩ : ∃ P, P = partsAll l u := ⟨_, rfl⟩
  have hPl : P.length ≤ 4826809 := by rw [hP]; exact parts_le hl6 hu12
  obtain ⟨K4, h4⟩ := blAll_ev l hl6 u (by omega) (by omega)
  rw [← hP] at h4 ⊢
  have hmem : ∀ m ∈ P, m.length = l.length ∧ ∀ x ∈ m, 0 ≤ x ∧ x ≤ 12 := fun m hm => partsAll_mem l u (by omega) m (by rw [← hP]; exact hm)
  obtain ⟨g, hg⟩ : ∃ g : List Int → Int, g = fun m => rd (sumL (sumsTo l m m.length)) kind := ⟨_, rfl⟩
  rw [← hg]
  have hsp := ev_loop (F := fun k i => spec_blEdge.l0 k l kind (edgeSp ((P.take i).foldl (edgeTT g) none)).1 (edgeSp ((P.take i).foldl (edgeTT g) none)).2.1 (edgeSp ((P.take i).foldl (edgeTT g) none)).2.2 P (P.length : Int) (i : Int)) (n := P.length) (res := fun _ => edgeSp (P.foldl (edgeTT g) none))
    (ev_suc 0 fun k _ => by
      simp only [spec_blEdge.l0]
      rw [if_neg (by omega), List.take_of_length_le (Nat.le_refl _)])
    (fun i hi K hK => by
      obtain ⟨m1, m2⟩ := hmem P[i] (List.getElem_mem hi)
      obtain ⟨K5, h5⟩ := blSums_ev l P[i] (by omega) m1 m2
      refine ⟨K + K5 + 2, fun k hk' => ?_⟩
      obtain ⟨k, rfl⟩ : ∃ m, k = m + 2 := ⟨k - 2, by omega⟩
      have hK2 := hK k (by omega)
      rw [List.take_succ_eq_append_getElem hi, List.foldl_append, List.foldl_cons, List.foldl_nil] at hK2
      generalize (P.take i).foldl (edgeTT g) none = s at hK2 ⊢
      have c1 : (i : Int) < (P.length : Int) := Int.ofNat_lt.2 hi
      have hlen : kind < ((sumL (sumsTo l P[i] P[i].length)).length : Int) := hk.2
      have e9 : wrap64 ((i : Int) + 1) = ((i + 1 : Nat) : Int) := w64s (by omega)
      have hgi : g P[i] = rd (sumL (sumsTo l P[i] P[i].length)) kind := by rw [hg]
      have h5' := h5 (k + 1) (by omega)
      simp only [spec_blEdge.l0]
      have c0 : (0 : Int) ≤ (i : Int) := Int.natCast_nonneg i
      rw [if_pos c1, if_pos c0, if_pos c1, rdLLp P i hi, h5']
      simp only [Option.bind_some]
      rw [if_pos hk.1, if_pos hlen, ← hgi]
      cases s with
      | none =>
        rw [show edgeSp none = (0, 0, false) from rfl]
        rw [show edgeTT g none P[i] = some (g P[i], g P[i]) from rfl, show edgeSp (some (g P[i], g P[i])) = (g P[i], g P[i], true) from rfl] at hK2
        simp only [Bool.false_eq_true, if_false, spec_blEdge.j1, if_true, e9]
        exact hK2
      | some q =>
        rw [show edgeTT g (some q) P[i] = some (if g P[i] < q.1 then g P[i] else q.1, if g P[i] > q.2 then g P[i] else q.2) from rfl, show ∀ z : Int × Int, edgeSp (some z) = (z.1, z.2, true) from fun _ => rfl] at hK2
        simp only at hK2
        rw [show edgeSp (some q) = (q.1, q.2, true) from rfl]
        simp only [if_true, spec_blEdge.j1, e9]
        by_cases a1 : g P[i] < q.1
        · rw [if_pos a1] at hK2
          rw [if_pos (decide_eq_true a1)]
          by_cases a2 : g P[i] > q.2
          · rw [if_pos a2] at hK2 ⊢; exact hK2
          · rw [if_neg a2] at hK2 ⊢; exact hK2
        · rw [if_neg a1] at hK2
          rw [if_neg (by simpa using a1)]
          by_cases a2 : g P[i] > q.2
          · rw [if_pos a2] at hK2 ⊢; exact hK2
          · rw [if_neg a2] at hK2 ⊢; exact hK2) 0 (Nat.zero_le _)
  obtain ⟨K5, h5⟩ := hsp
  refine ⟨K4 + K5, fun k hk' => ?_⟩
  unfold spec_blEdge.f
  rw [h4 k (by omega)]
  simp only [Option.bind_some]
  exact h5 k (by omega)
def g1 (l : List S63) (m : List Int) : Int := (sumsTo l m m.length).2.1
def g2 (l : List S63) (m : List Int) : Int := (sumsTo l m m.length).2.2.1
theorem g12_nonneg {l : List S63} {u : Int} (hb : binsOk l = true) (hu : u ≤ 12) : ∀ m ∈ partsAll l u, 0 ≤ g1 l m ∧ 0 ≤ g2 l m := by
  intro m hm
  obtain ⟨f1, f2, f3⟩ := (binsOk_iff l).1 hb
  obtain ⟨m1, m2⟩ := partsAll_mem l u hu m hm
  have h := sums_all l f1 f3 m m1 m2 m.length (by omega)
  exact ⟨h.1.1, h.2.1⟩
theorem gradeRange_both (l : List S63) (hl : l.length ≤ 1048576) (u : Int) : ∃ r : Int × Int × Bool, (∃ K, ∀ k, K ≤ k → spec_GradeRange.f k l u = some r) ∧ (∃ K, ∀ k, K ≤ k → impl_GradeRange.f k l u = some r) ∧ r.2.2 = (binsOk l && (inr 0 12 u && !(partsAll l u).isEmpty)) ∧ (r.2.2 = true → r.1 ≤ r.2.1) ∧ (binsOk l = true → inr 0 12 u = true → ∀ m ∈ partsAll l u, r.1 ≤ g1 l m ∧ g1 l m ≤ r.2.1) := by
  obtain ⟨K1, h1⟩ := blBins_ev l hl
  obtain ⟨K2, h2⟩ := areBins_ev l hl
  by_cases hb : binsOk l = true
  · by_cases hu : inr 0 12 u = true
    · obtain ⟨u0, u1⟩ := (inr_iff 0 12 u).1 hu
      obtain ⟨f1, f2, f3⟩ := (binsOk_iff l).1 hb
      obtain ⟨K3, h3⟩ := blEdge_ev l f1 f3 u 1 u0 u1 (by omega)
      have hg : (fun m => rd (sumL (sumsTo l m m.length)) 1) = g1 l := by funext m; rfl
      rw [hg] at h3
      have hn : ∀ m ∈ partsAll l u, 0 ≤ g1 l m := fun m hm => (g12_nonneg hb u1 m hm).1
      obtain ⟨e1, -, e3⟩ := edge_fold (g := g1 l) (partsAll l u) none hn (fun q h => by cases h)
      have e4 := edge_some (g := g1 l) (partsAll l u) none
      obtain ⟨M', hf⟩ := fill_start l (impl_GradeRange.step l) u (-1, -1)
      have hfo := foldO_edge (impl_GradeRange.step l) edgeIm (g1 l) (fun t m ht hm => by
        unfold impl_GradeRange.step
        change some _ = some _
        congr 1
        cases t with
        | none =>
          show ((if (-1 : Int) < 0 then g1 l m else if g1 l m < -1 then g1 l m else -1, mx (-1) (g1 l m)) : Int × Int) = (g1 l m, g1 l m)
          rw [if_pos (by omega), mx_of_lt (by omega)]
        | some q =>
          have h3 := ht q rfl
          show ((if q.1 < 0 then g1 l m else if g1 l m < q.1 then g1 l m else q.1, mx q.2 (g1 l m)) : Int × Int) = (if g1 l m < q.1 then g1 l m else q.1, if g1 l m > q.2 then g1 l m else q.2)
          rw [if_neg (by omega)]
          rfl) (partsAll l u) none hn (fun q h => by cases h)
      rw [show edgeIm none = ((-1, -1) : Int × Int) from rfl] at hfo
      rw [hfo] at hf
      generalize (partsAll l u).foldl (edgeTT (g1 l)) none = F at h3 hf e1 e3 e4
      refine ⟨edgeSp F, ⟨K1 + K3, fun k hk => ?_⟩, ⟨K2, fun k hk => ?_⟩, ?_, ?_, fun _ _ m hm => ?_⟩
      · unfold spec_GradeRange.f
        rw [h1 k (by omega)]
        simp only [Option.bind_some]
        rw [if_pos hb, l1In_eq]
        simp only [Option.bind_some]
        rw [if_pos hu, h3 k (by omega)]
        rfl
      · unfold impl_GradeRange.f
        rw [h2 k hk]
        simp only [Option.bind_some]
        rw [if_pos hb, if_neg (by omega), if_neg (by omega), if_pos hl, hf]
        simp only [Option.bind_some]
        cases F with
        | none => rfl
        | some q =>
          have := e1 q rfl
          show (if q.1 < 0 then some ((0, 0, false) : Int × Int × Bool) else some (q.1, q.2, true)) = some (q.1, q.2, true)
          rw [if_neg (by omega)]
      · rw [hb, hu, Bool.true_and, Bool.true_and]
        rw [Option.isSome_none, Bool.false_or] at e4
        rw [← e4]
        cases F <;> rfl
      · cases F with
        | none => intro h; cases h
        | some q => intro _; exact (e1 q rfl).2
      · obtain ⟨q, e, h⟩ := e3 m hm
        subst e
        exact h
    · refine ⟨(0, 0, false), ⟨K1, fun k hk => ?_⟩, ⟨K2, fun k hk => ?_⟩, by rw [Bool.eq_false_iff.mpr hu]; simp, fun h => (by cases h), fun _ h => absurd h hu⟩
      · unfold spec_GradeRange.f
        rw [h1 k hk]
        simp only [Option.bind_some]
        rw [if_pos hb, l1In_eq]
        simp only [Option.bind_some]
        rw [if_neg hu]
      · unfold impl_GradeRange.f
        rw [h2 k hk]
        simp only [Option.bind_some]
        rw [if_pos hb]
        have hu2 := mt (inr_iff 0 12 u).2 hu
        by_cases c1 : u < 0
        · rw [if_pos c1]
        · rw [if_neg c1, if_pos (by omega)]
  · refine ⟨(0, 0, false), ⟨K1, fun k hk => ?_⟩, ⟨K2, fun k hk => ?_⟩, by rw [Bool.eq_false_iff.mpr hb]; rfl, fun h => (by cases h), fun h => absurd h hb⟩
    · unfold spec_GradeRange.f
      rw [h1 k hk]
      simp only [Option.bind_some]
      rw [if_neg hb]
    · unfold impl_GradeRange.f
      rw [h2 k hk]
      simp only [Option.bind_some]
      rw [if_neg hb]
theorem leastImpurity_both (l : List S63) (hl : l.length ≤ 1048576) (u : Int) : ∃ r : Int × Bool, (∃ K, ∀ k, K ≤ k → spec_LeastImpurity.f k l u = some r) ∧ (∃ K, ∀ k, K ≤ k → impl_LeastImpurity.f k l u = some r) ∧ r.2 = (binsOk l && (inr 0 12 u && !(partsAll l u).isEmpty)) ∧ (binsOk l = true → inr 0 12 u = true → ∀ m ∈ partsAll l u, r.1 ≤ g2 l m) := by
  obtain ⟨K1, h1⟩ := blBins_ev l hl
  obtain ⟨K2, h2⟩ := areBins_ev l hl
  by_cases hb : binsOk l = true
  · by_cases hu : inr 0 12 u = true
    · obtain ⟨u0, u1⟩ := (inr_iff 0 12 u).1 hu
      obtain ⟨f1, f2, f3⟩ := (binsOk_iff l).1 hb
      obtain ⟨K3, h3⟩ := blEdge_ev l f1 f3 u 2 u0 u1 (by omega)
      have hg : (fun m => rd (sumL (sumsTo l m m.length)) 2) = g2 l := by funext m; rfl
      rw [hg] at h3
      have hn : ∀ m ∈ partsAll l u, 0 ≤ g2 l m := fun m hm => (g12_nonneg hb u1 m hm).2
      obtain ⟨e1, -, e3⟩ := edge_fold (g := g2 l) (partsAll l u) none hn (fun q h => by cases h)
      have e4 := edge_some (g := g2 l) (partsAll l u) none
      obtain ⟨M', hf⟩ := fill_start l (impl_LeastImpurity.step l) u (-1)
      have hfo := foldO_edge (impl_LeastImpurity.step l) (fun t => (edgeIm t).1) (g2 l) (fun t m ht hm => by
        unfold impl_LeastImpurity.step
        change some _ = some _
        congr 1
        cases t with
        | none =>
          show (if (-1 : Int) < 0 then g2 l m else if g2 l m < -1 then g2 l m else -1) = g2 l m
          rw [if_pos (by omega)]
        | some q =>
          have h3 := ht q rfl
          show (if q.1 < 0 then g2 l m else if g2 l m < q.1 then g2 l m else q.1) = (if g2 l m < q.1 then g2 l m else q.1)
          rw [if_neg (by omega)]) (partsAll l u) none hn (fun q h => by cases h)
      rw [show (edgeIm none).1 = (-1 : Int) from rfl] at hfo
      rw [hfo] at hf
      generalize (partsAll l u).foldl (edgeTT (g2 l)) none = F at h3 hf e1 e3 e4
      refine ⟨((edgeSp F).1, (edgeSp F).2.2), ⟨K1 + K3, fun k hk => ?_⟩, ⟨K2, fun k hk => ?_⟩, ?_, fun _ _ m hm => ?_⟩
      · unfold spec_LeastImpurity.f
        rw [h1 k (by omega)]
        simp only [Option.bind_some]
        rw [if_pos hb, l1In_eq]
        simp only [Option.bind_some]
        rw [if_pos hu, h3 k (by omega)]
        rfl
      · unfold impl_LeastImpurity.f
        rw [h2 k hk]
        simp only [Option.bind_some]
        rw [if_pos hb, if_neg (by omega), if_neg (by omega), if_pos hl, hf]
        simp only [Option.bind_some]
        cases F with
        | none => rfl
        | some q =>
          have := e1 q rfl
          show (if q.1 < 0 then some ((0, false) : Int × Bool) else some (q.1, true)) = some (q.1, true)
          rw [if_neg (by omega)]
      · rw [hb, hu, Bool.true_and, Bool.true_and]
        rw [Option.isSome_none, Bool.false_or] at e4
        rw [← e4]
        cases F <;> rfl
      · obtain ⟨q, e, h⟩ := e3 m hm
        subst e
        exact h.1
    · refine ⟨(0, false), ⟨K1, fun k hk => ?_⟩, ⟨K2, fun k hk => ?_⟩, by rw [Bool.eq_false_iff.mpr hu]; simp, fun _ h => absurd h hu⟩
      · unfold spec_LeastImpurity.f
        rw [h1 k hk]
        simp only [Option.bind_some]
        rw [if_pos hb, l1In_eq]
        simp only [Option.bind_some]
        rw [if_neg hu]
      · unfold impl_LeastImpurity.f
        rw [h2 k hk]
        simp only [Option.bind_some]
        rw [if_pos hb]
        have hu2 := mt (inr_iff 0 12 u).2 hu
        by_cases c1 : u < 0
        · rw [if_pos c1]
        · rw [if_neg c1, if_pos (by omega)]
  · refine ⟨(0, false), ⟨K1, fun k hk => ?_⟩, ⟨K2, fun k hk => ?_⟩, by rw [Bool.eq_false_iff.mpr hb]; rfl, fun h => absurd h hb⟩
    · unfold spec_LeastImpurity.f
      rw [h1 k hk]
      simp only [Option.bind_some]
      rw [if_neg hb]
    · unfold impl_LeastImpurity.f
      rw [h2 k hk]
      simp only [Option.bind_some]
      rw [if_neg hb]
theorem blendSums_both (l : List S63) (p : List Int) (hl : l.length ≤ 1048576) (hp : p.length ≤ 1048576) : ∃ r : Int × Int × Int × Int × Bool, (∃ K, ∀ k, K ≤ k → impl_BlendSums.f k l p = some r) ∧ (∃ K, ∀ k, K ≤ k → spec_BlendSums.f k l p = some r) ∧ r.2.2.2.2 = partsOk l p ∧ (partsOk l p = true → r.1 = (sumsTo l p p.length).1 ∧ r.2.1 = g1 l p ∧ r.2.2.1 = g2 l p) := by
  obtain ⟨K1, h1⟩ := areBins_ev l hl
  obtain ⟨K3, h3⟩ := areParts_ev l p hl hp
  obtain ⟨K4, h4⟩ := blParts_ev l p hl hp
  by_cases hk : partsOk l p = true
  · obtain ⟨K5, h5⟩ := blendSums_ev l p hl hp hk
    obtain ⟨f1, f2, f3⟩ := parts_small hk
    obtain ⟨K6, h6⟩ := blSums_ev l p (by omega) f1 f3
    refine ⟨_, ⟨K5, h5⟩, ⟨K4 + K6, fun k hk' => ?_⟩, hk.symm, fun _ => ⟨rfl, rfl, rfl⟩⟩
    unfold spec_BlendSums.f
    rw [h4 k (by omega)]
    simp only [Option.bind_some]
    rw [if_pos hk, h6 k (by omega)]
    simp only [Option.bind_some]
    rw [if_pos (by simp [sumL]), if_pos (by simp [sumL]), if_pos (by simp [sumL]), if_pos (by simp [sumL])]
    rfl
  · refine ⟨(0, 0, 0, 0, false), ⟨K1 + K3, fun k hk' => ?_⟩, ⟨K4, fun k hk' => ?_⟩, (Bool.eq_false_iff.mpr hk).symm, fun h => absurd h hk⟩
    · unfold impl_BlendSums.f
      rw [h1 k (by omega)]
      simp only [Option.bind_some]
      by_cases hb : binsOk l = true
      · rw [if_pos hb, h3 k (by omega)]
        simp only [Option.bind_some]
        rw [if_neg (fun h => hk (by unfold partsOk; rw [hb, h]; rfl))]
      · rw [if_neg hb]
    · unfold spec_BlendSums.f
      rw [h4 k hk']
      simp only [Option.bind_some]
      rw [if_neg hk]
theorem drawTake_ok {l : List Int} (hl : bytes l) (hn : l.length ≤ maxLen) : ∃ x p, x.length ≤ 7 ∧ p.length ≤ 8 ∧ ∃ K, ∀ k, K ≤ k → spec_DrawTakeBlend.f k l = some (x, p) := by
  obtain ⟨x, p1, s1, ⟨K1, h1⟩, hx, g0, g1⟩ := bins_ok hl hn 0
  obtain ⟨p, p2, s2, ⟨K2, h2⟩, hp, g2, g3⟩ := partsOf_ok hl hn s1 x hx g0 (by omega)
  refine ⟨x, p, hx, hp, K1 + K2, fun k hk => ?_⟩
  unfold spec_DrawTakeBlend.f spec_DrawBlendSums.f spec_DrawBlendSums.q
  rw [h1 k (by omega)]
  simp only [Option.bind_some]
  rw [h2 k (by omega)]
  rfl
theorem drawGrade_ok {l : List Int} (hl : bytes l) (hn : l.length ≤ maxLen) : ∃ x u, x.length ≤ 7 ∧ ∃ K, ∀ k, K ≤ k → spec_DrawGradeRange.f k l = some (x, u) := by
  obtain ⟨x, p1, s1, ⟨K1, h1⟩, hx, g0, g1⟩ := bins_ok hl hn 0
  obtain ⟨u, p2, s2, e2, _, q2, r2⟩ := among_ok hl hn s1 [0, 1, 2, 5, 12, 13, -1] (by simp) (p := p1) (by omega) (by omega)
  refine ⟨x, u, hx, K1, fun k hk => ?_⟩
  unfold spec_DrawGradeRange.f spec_DrawLeastImpurity.f spec_DrawLeastImpurity.q
  rw [h1 k (by omega)]
  simp only [Option.bind_some]
  rw [e2]
  rfl
theorem qBins_ev (l : List S63) (hl : l.length ≤ 1048576) : ∃ K, ∀ k, K ≤ k → laws_qBins.f k l l = some true := by
  have h := ev_loop (F := fun k i => laws_qBins.l0 k l l (l.length : Int) (i : Int)) (n := l.length) (res := fun _ => true)
    (ev_suc 0 fun k _ => by simp only [laws_qBins.l0]; rw [if_neg (by omega)])
    (fun i hi K hK => ev_suc K fun k hk => by
      have h2 := hK k hk
      simp only [laws_qBins.l0]
      rw [if_pos (by omega), if_pos (by omega), if_pos (by omega), if_pos (by omega), if_neg (by simp), w64s (by omega)]
      exact h2) 0 (Nat.zero_le _)
  obtain ⟨K, h⟩ := h
  refine ⟨K, fun k hk => ?_⟩
  unfold laws_qBins.f
  rw [if_pos rfl]
  exact h k hk
theorem binsOk_taken {l : List S63} {p : List Int} (h : partsOk l p = true) : binsOk (takenTo l p l.length) = true := by
  obtain ⟨f1, f2, f3, f4, f5⟩ := parts_facts h
  refine (binsOk_iff _).2 ⟨fun x hx => ?_, by rw [takenTo_length]; exact f2, by rw [takenTo_length]; exact f3⟩
  obtain ⟨j, hj, rfl⟩ := List.mem_map.1 hx
  have hj := List.mem_range.1 hj
  have h1 := f5 j hj
  have h2 := (binOk_iff _).1 (f1 _ (List.getElem_mem hj))
  rw [← rdB_nat l j hj] at h2
  exact (binOk_iff _).2 ⟨⟨by simp only [takenAt]; omega, by simp only [takenAt]; omega⟩, h2.2⟩
theorem FnBins : laws_FnBins.Pure := by
  intro l0 l1 h1 _ hw1 h2 _ hw2
  obtain ⟨l, p, hl, hp, Ka, ea⟩ := drawTake_ok (bytes_of hw1) h1
  obtain ⟨x, u, hx, Kb, eb⟩ := drawGrade_ok (bytes_of hw2) h2
  obtain ⟨t, ⟨K1, e1⟩, ⟨K2, e2⟩, ht6, ht1, ht2⟩ := takeBlend_both l p (by omega) (by omega)
  obtain ⟨s, ⟨K3, e3⟩, ⟨K4, e4⟩, hs1, hs2⟩ := blendSums_both l p (by omega) (by omega)
  obtain ⟨r, ⟨K5, e5⟩, ⟨K6, e6⟩, hr1, hr2, _⟩ := gradeRange_both x (by omega) u
  obtain ⟨i, ⟨K7, e7⟩, ⟨K8, e8⟩, hi1, _⟩ := leastImpurity_both x (by omega) u
  obtain ⟨K9, e9⟩ := qBins_ev t.1 (by omega)
  have hri : r.2.2 = i.2 := hr1.trans hi1.symm
  have hst : s.2.2.2.2 = t.2 := by
    rw [hs1]
    by_cases hk : partsOk l p = true
    · rw [ht1 hk, hk]
    · rw [ht2 hk, Bool.eq_false_iff.mpr hk]
  have hJ0 : ∃ K, ∀ k, K ≤ k → laws_FnBins.j0 k l p t.1 t.2 t.1 s.1 s.2.1 s.2.2.1 (s.2.2.2.2 != t.2) = some true := by
    rw [hst, bne_self_eq_false]
    by_cases hk : partsOk l p = true
    · obtain ⟨f1, f2, f3, f4, f5⟩ := parts_facts hk
      obtain ⟨q1, q2, q3⟩ := hs2 hk
      obtain ⟨pk1, pk2⟩ := (partsOk_iff l p).1 hk
      obtain ⟨sm1, sm2, sm3⟩ := parts_small hk
      have hu := sums_units l p (by omega) sm3 p.length (Nat.le_refl _)
      rw [List.take_length] at hu
      rw [ht1 hk]
      simp only
      obtain ⟨K20, e20⟩ := areBins_ev (takenTo l p l.length) (by rw [takenTo_length]; omega)
      rw [binsOk_taken hk] at e20
      obtain ⟨v, ⟨_, _⟩, ⟨K21, e21⟩, hv1, hv2, hv3⟩ := gradeRange_both l (by omega) s.1
      obtain ⟨w, ⟨_, _⟩, ⟨K22, e22⟩, hw3, hw4⟩ := leastImpurity_both l (by omega) s.1
      have hin : p ∈ partsAll l s.1 := by rw [q1, hu.1]; exact partsAll_has l p pk2
      have hlast : ∃ K, ∀ k, K ≤ k → laws_FnBins.j2 k l (takenTo l p l.length) s.1 s.2.1 s.2.2.1 s.1 (decide (s.1 > 12)) = some true := by
        by_cases hbig : s.1 > 12
        · refine ev_suc K20 fun k hk' => ?_
          simp only [laws_FnBins.j2]
          rw [decide_eq_true hbig, if_pos rfl, if_pos trivial, e20 k hk']
          rfl
        · have hu12 : inr 0 12 s.1 = true := (inr_iff _ _ _).2 ⟨by rw [q1, hu.1]; exact hu.2.1, by omega⟩
          have hne : (partsAll l s.1).isEmpty = false := by
            cases hP : partsAll l s.1 with
            | nil => rw [hP] at hin; cases hin
            | cons a b => rfl
          rw [pk1, hu12, hne] at hv1 hw3
          simp only [Bool.not_false, Bool.and_self] at hv1 hw3
          have b1 := hv3 pk1 hu12 p hin
          have b2 := hw4 pk1 hu12 p hin
          refine ev_suc (K21 + K22) fun k hk' => ?_
          simp only [laws_FnBins.j2]
          rw [decide_eq_false hbig, if_neg (by simp), e21 k (by omega), e22 k (by omega)]
          simp only [Option.bind_some]
          rw [if_pos hv1, if_pos (by rw [q2]; exact b1.1), if_pos (by rw [q2]; exact b1.2), if_pos hw3, decide_eq_true (by rw [q3]; exact b2)]
      obtain ⟨K23, e23⟩ := hlast
      have hloop := ev_loop (F := fun k j => laws_FnBins.l0 k l p (takenTo l p l.length) s.1 s.2.1 s.2.2.1 ((p.take j).sum) (takenTo l p l.length) (l.length : Int) (j : Int)) (n := l.length) (res := fun _ => true)
        (ev_suc (K20 + K23) fun k hk' => by
          simp only [laws_FnBins.l0]
          rw [if_neg (by omega), List.take_of_length_le (by omega), ← hu.1, ← q1, if_pos rfl, e20 k (by omega)]
          simp only [Option.bind_some, if_true]
          exact e23 k (by omega))
        (fun j hj K hK => ev_suc K fun k hk' => by
          have hT : rd_T63 (takenTo l p l.length) (j : Int) = takenAt l p j := by
            rw [rdB_nat _ j (by rw [takenTo_length]; exact hj)]
            simp [takenTo]
          have g := f5 j hj
          have hjp : j < p.length := by omega
          have hs3 := sums_units l p (by omega) sm3 (j + 1) (by omega)
          have hsm : ((p.take j).sum) + rd p (j : Int) = (p.take (j + 1)).sum := by rw [List.take_succ_eq_append_getElem hjp, List.sum_append, List.sum_cons, List.sum_nil, rd_nat p j hjp, Int.add_zero]
          simp only [laws_FnBins.l0]
          rw [if_pos (by omega), if_pos (by omega), if_pos (by rw [takenTo_length]; omega), if_pos (by omega), if_pos (by omega), hT]
          simp only [takenAt]
          rw [w64 (x := _ - _ + _) (by omega) (by omega), if_pos (by omega), if_pos trivial, hsm, w64 (by omega) (by omega), w64s (by omega)]
          exact hK k hk') 0 (Nat.zero_le _)
      obtain ⟨K24, e24⟩ := hloop
      refine ev_suc K24 fun k hk' => ?_
      simp only [laws_FnBins.j0, Bool.false_eq_true, if_false, if_true]
      have h := e24 k hk'
      simp only [List.take_zero, List.sum_nil] at h
      rw [takenTo_length]
      exact h
    · rw [ht2 hk]
      refine ev_suc 0 fun k _ => ?_
      simp only [laws_FnBins.j0, Bool.false_eq_true, if_false]
  obtain ⟨K10, e10⟩ := hJ0
  obtain ⟨B, hB⟩ : ∃ B, B = Ka + Kb + K1 + K2 + K3 + K4 + K5 + K6 + K7 + K8 + K9 + K10 := ⟨_, rfl⟩
  refine ⟨B, ?_⟩
  unfold laws_FnBins.f
  by_cases c0 : wrap64 ((l0.length : Int) + (l1.length : Int)) > 1048576
  · rw [if_pos c0]
  rw [if_neg c0, ea B (by omega)]
  simp only [Option.bind_some]
  rw [e2 B (by omega), e1 B (by omega), e3 B (by omega), e4 B (by omega), eb B (by omega)]
  simp only [Option.bind_some]
  rw [e6 B (by omega), e5 B (by omega), e8 B (by omega), e7 B (by omega)]
  simp only [Option.bind_some, bne_self_eq_false, Bool.false_eq_true, if_false, if_true]
  rw [e9 B (by omega)]
  simp only [Option.bind_some, if_true]
  rw [hri, bne_self_eq_false, if_neg (by simp)]
  by_cases hr : i.2 = true
  · rw [if_pos hr, if_neg (by have := hr2 (hri.trans hr); omega)]
    exact e10 B (by omega)
  · rw [if_neg hr]
    exact e10 B (by omega)

end Go.Proofs.Ytcinecbfkeefaaa.Pure
