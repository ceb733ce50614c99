/- THE PURE SIDE OF FnBlends: the printed functions of the reference and of the program give the same results. Plain Lean: no memory and no Go. -/
import Derived.Test.YtcinecbfkeefaaaPFnBlendsx13
import Derived.OpenShut
import Derived.Laws.Bits64b
namespace Go.Proofs.Ytcinecbfkeefaaa.Pure
open Go.RowKit Go.Proofs.Ytcinecbfkeefaaa.PFnBlends Go.Proofs.YtcinecbfkeefaaaW.PrintWords Go.Proofs.YtcinecbfkeefaaaW.PrintLast Go.Proofs.YtcinecbfkeefaaaW.PrintMore
set_option linter.unusedVariables false
set_option linter.unusedSimpArgs false

theorem w64 {x : Int} (h1 : -9223372036854775808 ≤ x) (h2 : x ≤ 9223372036854775807) : wrap64 x = x := by unfold wrap64; omega
theorem w64s {i : Nat} (h : i ≤ 9000000000000000000) : wrap64 ((i : Int) + 1) = ((i + 1 : Nat) : Int) := by rw [w64 (by omega) (by omega)]; omega
theorem rd_nat (l : List Int) (i : Nat) (h : i < l.length) : rd l (i : Int) = l[i] := by simp [rd, List.getD_eq_getElem?_getD, h]
def inr (lo hi x : Int) : Bool := decide (lo ≤ x) && decide (x ≤ hi)
theorem inr_iff (lo hi x : Int) : inr lo hi x = true ↔ lo ≤ x ∧ x ≤ hi := by simp [inr]
theorem inr_false (lo hi x : Int) : inr lo hi x = false ↔ ¬ (lo ≤ x ∧ x ≤ hi) := by rw [← inr_iff, Bool.not_eq_true]
theorem l1In_eq (a b c : Int) : spec_l1In.f a b c = some (inr b c a) := by
  unfold spec_l1In.f inr
  by_cases h : a ≥ b
  · rw [if_pos h]; simp [show b ≤ a from h]
  · rw [if_neg h]; simp [show ¬ b ≤ a from h]
theorem l1All_l0 (lo hi : Int) (l : List Int) (hl : l.length ≤ 9000000000000000000) : ∀ (d k i : Nat), i + d = l.length → d < k → spec_l1All.l0 k lo hi l (l.length : Int) (i : Int) = some ((l.drop i).all (inr lo hi)) := by
  intro d
  induction d with
  | zero =>
    intro k i hi' hk
    obtain ⟨k, rfl⟩ : ∃ m, k = m + 1 := ⟨k - 1, by omega⟩
    simp only [spec_l1All.l0]
    rw [if_neg (by omega), List.drop_of_length_le (by omega)]; rfl
  | succ d ih =>
    intro k i hi' hk
    obtain ⟨k, rfl⟩ : ∃ m, k = m + 1 := ⟨k - 1, by omega⟩
    have hlt : i < l.length := by omega
    simp only [spec_l1All.l0]
    rw [if_pos (by omega), if_pos (by omega), if_pos (by omega), l1In_eq, List.drop_eq_getElem_cons hlt, List.all_cons, rd_nat l i hlt, w64s (by omega), ih k (i + 1) (by omega) (by omega)]
    simp only [Option.bind_some]
    by_cases h : inr lo hi l[i] = true
    · rw [if_pos h, h, Bool.true_and]
    · rw [if_neg h, Bool.eq_false_iff.mpr h, Bool.false_and]
theorem l1All_eq (lo hi : Int) (l : List Int) (hl : l.length ≤ 9000000000000000000) (k : Nat) (hk : l.length < k) : spec_l1All.f k l lo hi = some (l.all (inr lo hi)) := by
  unfold spec_l1All.f
  exact l1All_l0 lo hi l hl l.length k 0 (by omega) hk
theorem ev_loop {β : Type} {F : Nat → Nat → Option β} {n : Nat} {res : Nat → β} (last : ∃ K, ∀ k, K ≤ k → F k n = some (res n)) (step : ∀ i, i < n → ∀ K, (∀ k, K ≤ k → F k (i + 1) = some (res (i + 1))) → ∃ K, ∀ k, K ≤ k → F k i = some (res i)) : ∀ i, i ≤ n → ∃ K, ∀ k, K ≤ k → F k i = some (res i) := by
  have key : ∀ d i, i + d = n → ∃ K, ∀ k, K ≤ k → F k i = some (res i) := by
    intro d
    induction d with
    | zero => intro i h; obtain rfl : i = n := by omega
              exact last
    | succ d ih =>
      intro i h
      obtain ⟨K, hK⟩ := ih (i + 1) (by omega)
      exact step i (by omega) K hK
  exact fun i h => key (n - i) i (by omega)
/-- One round more. -/
theorem ev_suc {β : Type} {g : Nat → Option β} {r : β} (K : Nat) (h : ∀ k, K ≤ k → g (k + 1) = some r) : ∃ K, ∀ k, K ≤ k → g k = some r :=
  ⟨K + 1, fun k hk => by obtain ⟨k, rfl⟩ : ∃ m, k = m + 1 := ⟨k - 1, by omega⟩; exact h k (by omega)⟩
theorem rdB_nat (l : List S63) (i : Nat) (h : i < l.length) : rd_T63 l (i : Int) = l[i] := by simp [rd_T63, List.getD_eq_getElem?_getD, h]
def binOk (x : S63) : Bool := inr 0 12 x.f0 && (inr 0 1000 x.f1 && (inr 0 1000 x.f2 && inr 0 1000 x.f3))
theorem binOk_iff (x : S63) : binOk x = true ↔ (0 ≤ x.f0 ∧ x.f0 ≤ 12) ∧ (0 ≤ x.f1 ∧ x.f1 ≤ 1000) ∧ (0 ≤ x.f2 ∧ x.f2 ≤ 1000) ∧ (0 ≤ x.f3 ∧ x.f3 ≤ 1000) := by
  simp [binOk, inr]
def binsOk (l : List S63) : Bool := l.all binOk && inr 1 6 (l.length : Int)
theorem binsOk_iff (l : List S63) : binsOk l = true ↔ (∀ x ∈ l, binOk x = true) ∧ 1 ≤ l.length ∧ l.length ≤ 6 := by
  simp only [binsOk, Bool.and_eq_true, List.all_eq_true, inr_iff]
  constructor
  · rintro ⟨h1, h2, h3⟩; exact ⟨h1, by omega, by omega⟩
  · rintro ⟨h1, h2, h3⟩; exact ⟨h1, by omega, by omega⟩
theorem blBins_ev (l : List S63) (hl : l.length ≤ 1048576) : ∃ K, ∀ k, K ≤ k → spec_blBins.f k l = some (binsOk l) := by
  have h := ev_loop (F := fun k i => spec_blBins.l0 k l l (l.length : Int) (i : Int)) (n := l.length) (res := fun i => (l.drop i).all binOk && inr 1 6 (l.length : Int))
    (ev_suc 0 fun k _ => by
      simp only [spec_blBins.l0]
      rw [if_neg (by omega), l1In_eq, List.drop_of_length_le (Nat.le_refl _)]
      rfl)
    (fun i hi K hK => ev_suc (max K 10) fun k hk => by
      simp only [spec_blBins.l0]
      rw [if_pos (by omega), if_pos (by omega), if_pos (by omega), rdB_nat l i hi, l1In_eq, List.drop_eq_getElem_cons hi, List.all_cons, w64s (by omega)]
      simp only [Option.bind_some]
      by_cases h1 : inr 0 12 l[i].f0 = true
      · rw [if_pos h1, l1All_eq 0 1000 [l[i].f1, l[i].f2, l[i].f3] (by simp) k (by simp; omega)]
        simp only [Option.bind_some]
        have e : binOk l[i] = [l[i].f1, l[i].f2, l[i].f3].all (inr 0 1000) := by simp [binOk, h1]
        rw [e]
        by_cases h2 : [l[i].f1, l[i].f2, l[i].f3].all (inr 0 1000) = true
        · rw [if_pos h2, h2, Bool.true_and]
          exact hK k (by omega)
        · rw [if_neg h2, Bool.eq_false_iff.mpr h2, Bool.false_and, Bool.false_and]
      · rw [if_neg h1]
        have e : binOk l[i] = false := by simp [binOk, Bool.eq_false_iff.mpr h1]
        rw [e, Bool.false_and, Bool.false_and]) 0 (Nat.zero_le _)
  exact h
theorem areBins_ev (l : List S63) (hl : l.length ≤ 1048576) : ∃ K, ∀ k, K ≤ k → impl_AreBins.f k l = some (binsOk l) := by
  have h := ev_loop (F := fun k i => impl_AreBins.l0 k l (l.length : Int) (i : Int)) (n := l.length) (res := fun i => (l.drop i).all binOk)
    (ev_suc 0 fun k _ => by
      simp only [impl_AreBins.l0]
      rw [if_neg (by omega), List.drop_of_length_le (Nat.le_refl _)]
      rfl)
    (fun i hi K hK => ev_suc K fun k hk => by
      simp only [impl_AreBins.l0]
      rw [if_pos (by omega), if_pos (by omega), if_pos (by omega), rdB_nat l i hi, List.drop_eq_getElem_cons hi, List.all_cons, w64s (by omega), hK k hk]
      by_cases h : binOk l[i] = true
      · have h2 := (binOk_iff _).1 h
        rw [if_neg (by omega), if_neg (by omega), if_neg (by omega), if_neg (by omega), if_neg (by omega), if_neg (by omega), if_neg (by omega), if_neg (by omega), h, Bool.true_and]
      · have h2 := mt (binOk_iff _).2 h
        rw [Bool.eq_false_iff.mpr h, Bool.false_and]
        repeat (split; rfl)
        exact absurd (by omega) h2) 0 (Nat.zero_le _)
  obtain ⟨K, h⟩ := h
  refine ev_suc K fun k hk => ?_
  have hk2 := h k hk
  unfold impl_AreBins.f binsOk
  by_cases h1 : (l.length : Int) < 1
  · rw [if_pos h1, (inr_false _ _ _).2 (by omega), Bool.and_false]
    simp only [impl_AreBins.j0]
    rw [if_pos trivial]
  · rw [if_neg h1]
    simp only [impl_AreBins.j0]
    by_cases h2 : (l.length : Int) > 6
    · rw [if_pos (by simpa using h2), (inr_false _ _ _).2 (by omega), Bool.and_false]
    · rw [if_neg (by simpa using h2), (inr_iff _ _ _).2 (by omega), Bool.and_true]
      exact hk2
/-- Parts fit their bins. -/
def fitAt (l : List S63) (p : List Int) (j : Nat) : Bool := inr 0 (rd_T63 l (j : Int)).f0 (rd p (j : Int))
def fitFrom (l : List S63) (p : List Int) (i : Nat) : Bool := ((List.range (l.length - i)).map (· + i)).all (fitAt l p)
theorem fitFrom_last (l : List S63) (p : List Int) : fitFrom l p l.length = true := by simp [fitFrom]
theorem fitFrom_step (l : List S63) (p : List Int) (i : Nat) (h : i < l.length) : fitFrom l p i = (fitAt l p i && fitFrom l p (i + 1)) := by
  unfold fitFrom
  rw [show l.length - i = (l.length - (i + 1)) + 1 from by omega, List.range_succ_eq_map, List.map_cons, List.all_cons, Nat.zero_add]
  congr 2
  rw [List.map_map]
  congr 1
  funext j
  simp only [Function.comp_apply]
  omega
def partsOk (l : List S63) (p : List Int) : Bool := binsOk l && (decide (p.length = l.length) && fitFrom l p 0)
theorem blParts_ev (l : List S63) (p : List Int) (hl : l.length ≤ 1048576) (hp : p.length ≤ 1048576) : ∃ K, ∀ k, K ≤ k → spec_blParts.f k l p = some (partsOk l p) := by
  obtain ⟨K1, h1⟩ := blBins_ev l hl
  by_cases hlen : p.length = l.length
  · have h := ev_loop (F := fun k i => spec_blParts.l0 k p l (l.length : Int) (i : Int)) (n := l.length) (res := fun i => fitFrom l p i)
      (ev_suc 0 fun k _ => by
        simp only [spec_blParts.l0]
        rw [if_neg (by omega), fitFrom_last])
      (fun i hi K hK => ev_suc K fun k hk => by
        simp only [spec_blParts.l0]
        rw [if_pos (by omega), if_pos (by omega), if_pos (by omega), if_pos (by omega), l1In_eq, w64s (by omega), fitFrom_step l p i hi, show inr 0 (rd_T63 l (i : Int)).f0 (rd p (i : Int)) = fitAt l p i from rfl]
        simp only [Option.bind_some]
        by_cases h : fitAt l p i = true
        · rw [if_pos h, h, Bool.true_and]
          exact hK k hk
        · rw [if_neg h, Bool.eq_false_iff.mpr h, Bool.false_and]) 0 (Nat.zero_le _)
    obtain ⟨K2, h2⟩ := h
    refine ⟨K1 + K2 + 1, fun k hk => ?_⟩
    obtain ⟨k, rfl⟩ : ∃ m, k = m + 1 := ⟨k - 1, by omega⟩
    unfold spec_blParts.f partsOk
    rw [h1 _ (by omega)]
    simp only [Option.bind_some]
    have e : ((p.length : Int) != (l.length : Int)) = false := by simp [hlen]
    by_cases hb : binsOk l = true
    · rw [if_pos hb, e, hb, decide_eq_true hlen, Bool.true_and, Bool.true_and]
      simp only [spec_blParts.j0]
      rw [if_neg (by simp)]
      exact h2 k (by omega)
    · rw [if_neg hb, Bool.eq_false_iff.mpr hb, Bool.false_and]
      simp only [spec_blParts.j0]
      rw [if_pos trivial]
  · refine ⟨K1 + 1, fun k hk => ?_⟩
    obtain ⟨k, rfl⟩ : ∃ m, k = m + 1 := ⟨k - 1, by omega⟩
    unfold spec_blParts.f partsOk
    rw [h1 _ (by omega), decide_eq_false hlen, Bool.false_and, Bool.and_false]
    simp only [Option.bind_some]
    have e : ((p.length : Int) != (l.length : Int)) = true := by simp; omega
    by_cases hb : binsOk l = true
    · rw [if_pos hb, e]
      simp only [spec_blParts.j0]
      rw [if_pos trivial]
    · rw [if_neg hb]
      simp only [spec_blParts.j0]
      rw [if_pos trivial]
theorem areParts_ev (l : List S63) (p : List Int) (hl : l.length ≤ 1048576) (hp : p.length ≤ 1048576) : ∃ K, ∀ k, K ≤ k → impl_areParts.f k l p = some (decide (p.length = l.length) && fitFrom l p 0) := by
  by_cases hlen : p.length = l.length
  · have h := ev_loop (F := fun k i => impl_areParts.l0 k l p (p.length : Int) (i : Int)) (n := l.length) (res := fun i => fitFrom l p i)
      (ev_suc 0 fun k _ => by
        simp only [impl_areParts.l0]
        rw [if_neg (by omega), fitFrom_last])
      (fun i hi K hK => ev_suc K fun k hk => by
        simp only [impl_areParts.l0]
        rw [if_pos (by omega), if_pos (by omega), if_pos (by omega), w64s (by omega), fitFrom_step l p i hi, hK k hk]
        by_cases h : fitAt l p i = true
        · have h3 := (inr_iff _ _ _).1 h
          rw [if_neg (by omega), if_pos (by omega), if_neg (by omega), h, Bool.true_and]
        · have h3 := (inr_false _ _ _).1 (Bool.eq_false_iff.mpr h)
          rw [Bool.eq_false_iff.mpr h, Bool.false_and]
          by_cases h4 : rd p (i : Int) < 0
          · rw [if_pos h4]
          · rw [if_neg h4, if_pos (by omega), if_pos (by omega)]) 0 (Nat.zero_le _)
    obtain ⟨K2, h2⟩ := h
    refine ⟨K2, fun k hk => ?_⟩
    unfold impl_areParts.f
    rw [if_pos (by omega), decide_eq_true hlen, Bool.true_and]
    exact h2 k hk
  · refine ⟨0, fun k hk => ?_⟩
    unfold impl_areParts.f
    rw [if_neg (by omega), decide_eq_false hlen, Bool.false_and]
theorem flatMap_le {α β : Type} (g : α → List β) (B : Nat) : ∀ l : List α, (∀ x ∈ l, (g x).length ≤ B) → (l.flatMap g).length ≤ l.length * B := by
  intro l
  induction l with
  | nil => intro _; simp
  | cons x l ih =>
    intro h
    have h1 := h x (List.mem_cons_self)
    have h2 := ih (fun y hy => h y (List.mem_cons_of_mem _ hy))
    rw [List.flatMap_cons, List.length_append, List.length_cons, Nat.add_mul, Nat.one_mul]
    omega
def foldO {σ α : Type} (step : σ → α → Option σ) : σ → List α → Option σ
  | s, [] => some s
  | s, a :: l => (step s a).bind fun s' => foldO step s' l
theorem foldO_append {σ α : Type} (step : σ → α → Option σ) : ∀ (l l2 : List α) (s : σ), foldO step s (l ++ l2) = (foldO step s l).bind fun s' => foldO step s' l2 := by
  intro l
  induction l with
  | nil => intro l2 s; rfl
  | cons a l ih =>
    intro l2 s
    simp only [List.cons_append, foldO]
    cases step s a with
    | none => rfl
    | some s1 => exact ih l2 s1
theorem foldO_ev {σ α : Type} (step : Nat → σ → α → Option σ) (tt : σ → α → σ) (ok : σ → Prop) : ∀ (l : List α), (∀ a ∈ l, ∀ s, ok s → ok (tt s a) ∧ ∃ K, ∀ k, K ≤ k → step k s a = some (tt s a)) → ∀ s, ok s → ok (l.foldl tt s) ∧ ∃ K, ∀ k, K ≤ k → foldO (step k) s l = some (l.foldl tt s) := by
  intro l
  induction l with
  | nil => intro _ s hs; exact ⟨hs, 0, fun k _ => rfl⟩
  | cons a l ih =>
    intro h s hs
    obtain ⟨h1, K1, h2⟩ := h a (List.mem_cons_self) s hs
    obtain ⟨h3, K2, h4⟩ := ih (fun b hb => h b (List.mem_cons_of_mem _ hb)) (tt s a) h1
    refine ⟨h3, K1 + K2, fun k hk => ?_⟩
    simp only [foldO, List.foldl_cons]
    rw [h2 k (by omega)]
    exact h4 k (by omega)
/-- All parts of bins that come to a sum, in lexicographic order. -/
def partsAll : List S63 → Int → List (List Int)
  | [], left => if left = 0 then [[]] else []
  | b :: l, left => (List.range' 0 (mn left b.f0 + 1).toNat).flatMap fun (n : Nat) => (partsAll l (left - (n : Int))).map fun r => (n : Int) :: r
theorem rdLLp (l : List (List Int)) (i : Nat) (h : i < l.length) : rd_L2 l (i : Int) = l[i] := by simp [rd_L2, List.getD_eq_getElem?_getD, h]
theorem mn_le (a b : Int) : mn a b ≤ a := by unfold mn; split <;> omega
theorem partsAll_mem : ∀ (l : List S63) (left : Int), left ≤ 12 → ∀ m ∈ partsAll l left, m.length = l.length ∧ ∀ x ∈ m, 0 ≤ x ∧ x ≤ 12 := by
  intro l
  induction l with
  | nil =>
    intro left _ m hm
    simp only [partsAll] at hm
    by_cases h : left = 0
    · rw [if_pos h, List.mem_singleton] at hm
      subst hm
      exact ⟨rfl, fun x hx => by cases hx⟩
    · rw [if_neg h] at hm; cases hm
  | cons b l ih =>
    intro left hl m hm
    simp only [partsAll] at hm
    obtain ⟨n, hn, hm⟩ := List.mem_flatMap.1 hm
    obtain ⟨r, hr, rfl⟩ := List.mem_map.1 hm
    have hn2 := List.mem_range'_1.1 hn
    have := mn_le left b.f0
    obtain ⟨h1, h2⟩ := ih (left - (n : Int)) (by omega) r hr
    refine ⟨by rw [List.length_cons, List.length_cons, h1], fun x hx => ?_⟩
    rcases List.mem_cons.1 hx with rfl | hx
    · omega
    · exact h2 x hx
theorem partsAll_len : ∀ (l : List S63) (left : Int), left ≤ 12 → (partsAll l left).length ≤ 13 ^ l.length := by
  intro l
  induction l with
  | nil => intro left _; simp only [partsAll]; split <;> simp
  | cons b l ih =>
    intro left hl
    have := mn_le left b.f0
    have h := flatMap_le (fun (n : Nat) => (partsAll l (left - (n : Int))).map fun r => (n : Int) :: r) (13 ^ l.length) (List.range' 0 (mn left b.f0 + 1).toNat) (fun n hn => by
      rw [List.length_map]
      exact ih _ (by omega))
    rw [List.length_range'] at h
    simp only [partsAll]
    rw [List.length_cons, Nat.pow_succ, Nat.mul_comm (13 ^ l.length)]
    exact Nat.le_trans h (Nat.mul_le_mul_right _ (by omega))
theorem l1Least_mn (a b : Int) : spec_l1Least.f a b = some (mn a b) := by
  unfold spec_l1Least.f mn
  by_cases h : a < b
  · rw [if_pos h, if_neg (by omega)]
  · rw [if_neg h]
    by_cases h2 : b < a
    · rw [if_pos h2]
    · rw [if_neg h2]; congr 1; omega
theorem blAll_ev : ∀ (l : List S63), l.length ≤ 6 → ∀ (left : Int), 0 ≤ left → left ≤ 12 → ∃ K, ∀ k, K ≤ k → spec_blAll.f k l left = some (partsAll l left) := by
  intro l
  induction l with
  | nil =>
    intro _ left _ _
    refine ev_suc 0 fun k _ => ?_
    simp only [spec_blAll.f, partsAll, List.length_nil]
    rw [if_pos (by rfl)]
    by_cases h : left = 0
    · rw [if_pos h, if_pos h]
    · rw [if_neg h, if_neg h]
  | cons b l ih =>
    intro hl6 left hl0 hl12
    rw [List.length_cons] at hl6
    have hmn := mn_le left b.f0
    obtain ⟨T, hT⟩ : ∃ T, T = (mn left b.f0 + 1).toNat := ⟨_, rfl⟩
    have hT13 : T ≤ 13 := by omega
    have hp : 13 ^ l.length ≤ 371293 := Nat.le_trans (Nat.pow_le_pow_right (by omega) (show l.length ≤ 5 by omega)) (by decide)
    have hlen : ∀ i, i ≤ T → (((List.range' 0 T).take i).flatMap fun (n : Nat) => (partsAll l (left - (n : Int))).map fun r => (n : Int) :: r).length ≤ 13 * 371293 := by
      intro i hi
      have h := flatMap_le (fun (n : Nat) => (partsAll l (left - (n : Int))).map fun r => (n : Int) :: r) 371293 ((List.range' 0 T).take i) (fun n _ => by
        rw [List.length_map]
        exact Nat.le_trans (partsAll_len l _ (by omega)) hp)
      rw [List.length_take, List.length_range'] at h
      exact Nat.le_trans h (Nat.mul_le_mul_right _ (by omega))
    have hpos : (0 : Int) < ((b :: l).length : Int) := by rw [List.length_cons]; omega
    have hb0 : rd_T63 (b :: l) 0 = b := rfl
    have h := ev_loop (F := fun k i => spec_blAll.l0 k (b :: l) left (((List.range' 0 T).take i).flatMap fun (n : Nat) => (partsAll l (left - (n : Int))).map fun r => (n : Int) :: r) (i : Int)) (n := T) (res := fun _ => partsAll (b :: l) left)
      (ev_suc 0 fun k _ => by
        simp only [spec_blAll.l0]
        rw [if_pos hpos, l1Least_mn, hb0]
        simp only [Option.bind_some]
        rw [if_neg (by omega), List.take_of_length_le (by simp), partsAll, hT])
      (fun i hi K hK => by
        obtain ⟨K2, h2⟩ := ih (by omega) (left - (i : Int)) (by omega) (by omega)
        obtain ⟨R, hR⟩ : ∃ R, R = partsAll l (left - (i : Int)) := ⟨_, rfl⟩
        rw [← hR] at h2
        have hRl : R.length ≤ 371293 := by rw [hR]; exact Nat.le_trans (partsAll_len l _ (by omega)) hp
        have hRm : ∀ m ∈ R, m.length ≤ 6 := fun m hm => by
          have := (partsAll_mem l (left - (i : Int)) (by omega) m (by rw [← hR]; exact hm)).1
          omega
        have htk : (List.range' 0 T).take (i + 1) = (List.range' 0 T).take i ++ [i] := by rw [List.take_succ_eq_append_getElem (by simpa using hi)]; simp
        rw [htk, List.flatMap_append, List.flatMap_cons, List.flatMap_nil, List.append_nil, ← hR] at hK
        have hl1 := hlen i (by omega)
        generalize (((List.range' 0 T).take i).flatMap fun (n : Nat) => (partsAll l (left - (n : Int))).map fun r => (n : Int) :: r) = acc at hK hl1 ⊢
        have h3 := ev_loop (F := fun k j => spec_blAll.l1 k (b :: l) left (acc ++ (R.take j).map fun r => (i : Int) :: r) (i : Int) R (R.length : Int) (j : Int)) (n := R.length) (res := fun _ => partsAll (b :: l) left)
          (ev_suc K fun k hk => by
            simp only [spec_blAll.l1]
            rw [if_neg (by omega), List.take_of_length_le (Nat.le_refl _), w64s (by omega)]
            exact hK k hk)
          (fun j hj K3 hK3 => ev_suc K3 fun k hk => by
            have hm := hRm _ (List.getElem_mem hj)
            have hK4 := hK3 k hk
            rw [List.take_succ_eq_append_getElem hj, List.map_append, List.map_cons, List.map_nil, ← List.append_assoc] at hK4
            simp only [spec_blAll.l1]
            rw [if_pos (by omega), if_pos (by omega), if_pos (by omega), rdLLp R j hj]
            simp only [Option.bind_some]
            rw [if_pos (by simp only [List.length_cons, List.length_nil]; omega), if_pos (by rw [List.length_append, List.length_map, List.length_take]; omega), w64s (by omega)]
            exact hK4) 0 (Nat.zero_le _)
        obtain ⟨K3, h3⟩ := h3
        refine ev_suc (K2 + K3) fun k hk => ?_
        simp only [spec_blAll.l0]
        rw [if_pos hpos, l1Least_mn, hb0]
        simp only [Option.bind_some]
        rw [if_pos (by omega), if_pos (by rw [List.length_cons]; omega), w64 (by omega) (by omega)]
        have h2' := h2 k (by omega)
        rw [show (b :: l).drop 1 = l from rfl, h2']
        have h3' := h3 k (by omega)
        simpa using h3') 0 (Nat.zero_le _)
    obtain ⟨K, h⟩ := h
    refine ev_suc K fun k hk => ?_
    simp only [spec_blAll.f]
    rw [if_neg (by omega)]
    simpa using h k hk
/-- The filling calls the function for all parts, in their order. -/
theorem fill_parts {σ : Type} (L : List S63) (step : σ → List Int → Option σ) : ∀ (d : Nat) (l : List S63) (left : Int) (M : List Int) (p : List Int), l.length = d → L.drop p.length = l → p.length + d = L.length → M.length = L.length → M.take p.length = p →
    ∃ M' : List Int, M'.length = L.length ∧ M'.take p.length = p ∧ ∀ s, partF L step d left M s = (foldO step s ((partsAll l left).map fun r => p ++ r)).bind fun s' => some (M', s') := by
  intro d
  induction d with
  | zero =>
    intro l left M p hl hd hp hM ht
    obtain rfl : l = [] := List.length_eq_zero_iff.1 hl
    have hMp : M = p := by rw [← ht, List.take_of_length_le (by omega)]
    refine ⟨M, hM, ht, fun s => ?_⟩
    simp only [partF, partsAll]
    by_cases h : left = 0
    · rw [if_pos h, if_pos h]
      simp only [List.map_cons, List.map_nil, List.append_nil, foldO]
      rw [hMp]
      cases step s p <;> rfl
    · rw [if_neg h, if_neg h]
      rfl
  | succ d ih =>
    intro l left M p hl hd hp hM ht
    cases l with
    | nil => cases hl
    | cons b l =>
      rw [List.length_cons] at hl
      have hlt : p.length < L.length := by omega
      have hb : rd_T63 L ((p.length : Nat) : Int) = b := by
        rw [rdB_nat L p.length hlt]
        have h := List.drop_eq_getElem_cons hlt
        rw [hd] at h
        exact (List.cons.inj h).1.symm
      have hdl : L.drop (p.length + 1) = l := by
        have h := List.drop_eq_getElem_cons hlt
        rw [hd] at h
        exact (List.cons.inj h).2.symm
      have key : ∀ e n, ∀ M1 : List Int, M1.length = L.length → M1.take p.length = p → ∃ M' : List Int, M'.length = L.length ∧ M'.take p.length = p ∧ ∀ s, partK (partF L step d) p.length left e n M1 s = (foldO step s (((List.range' n e).flatMap fun (j : Nat) => (partsAll l (left - (j : Int))).map fun r => (j : Int) :: r).map fun r => p ++ r)).bind fun s' => some (M', s') := by
        intro e
        induction e with
        | zero => intro n M1 h1 h2; exact ⟨M1, h1, h2, fun s => rfl⟩
        | succ e ihe =>
          intro n M1 h1 h2
          have hset : (M1.set p.length (n : Int)).take (p ++ [(n : Int)]).length = p ++ [(n : Int)] := by
            rw [List.length_append, List.length_singleton, List.take_succ_eq_append_getElem (by rw [List.length_set]; omega), List.getElem_set_self, List.take_set_of_le (Nat.le_refl _), h2]
          obtain ⟨M2, m1, m2, m3⟩ := ih l (left - (n : Int)) (M1.set p.length (n : Int)) (p ++ [(n : Int)]) (by omega) (by rw [List.length_append, List.length_singleton]; exact hdl) (by rw [List.length_append, List.length_singleton]; omega) (by rw [List.length_set]; exact h1) hset
          have m2' : M2.take p.length = p := by
            have h5 := congrArg (List.take p.length) m2
            rw [List.take_take, List.length_append, List.length_singleton, Nat.min_eq_left (by omega)] at h5
            rw [h5]
            simp
          obtain ⟨M3, n1, n2, n3⟩ := ihe (n + 1) M2 m1 m2'
          refine ⟨M3, n1, n2, fun s => ?_⟩
          simp only [partK]
          rw [m3 s, List.range'_succ, List.flatMap_cons, List.map_append, foldO_append, List.map_map]
          have e1 : ((fun r => p ++ r) ∘ fun r => (n : Int) :: r) = fun r => (p ++ [(n : Int)]) ++ r := by funext r; simp
          rw [e1]
          cases foldO step s ((partsAll l (left - (n : Int))).map fun r => p ++ [(n : Int)] ++ r) with
          | none => rfl
          | some s1 =>
            simp only [Option.bind_some]
            exact n3 s1
      obtain ⟨M', h1, h2, h3⟩ := key (mn left b.f0 + 1).toNat 0 M hM ht
      refine ⟨M'.set p.length 0, by rw [List.length_set]; exact h1, by rw [List.take_set_of_le (Nat.le_refl _)]; exact h2, fun s => ?_⟩
      simp only [partF, partsAll]
      rw [show L.length - (d + 1) = p.length from by omega, hb, h3 s]
      cases foldO step s (((List.range' 0 (mn left b.f0 + 1).toNat).flatMap fun (j : Nat) => (partsAll l (left - (j : Int))).map fun r => (j : Int) :: r).map fun r => p ++ r) <;> rfl
theorem fill_start {σ : Type} (L : List S63) (step : σ → List Int → Option σ) (left : Int) (s : σ) : ∃ M' : List Int, partF L step L.length left (List.replicate L.length 0) s = (foldO step s (partsAll L left)).bind fun s' => some (M', s') := by
  obtain ⟨M', _, _, h⟩ := fill_parts L step L.length L left (List.replicate L.length 0) [] rfl rfl (by simp) (by simp) (by simp)
  refine ⟨M', ?_⟩
  have h2 := h s
  simpa using h2
def sumL (s : Int × Int × Int × Int) : List Int := [s.1, s.2.1, s.2.2.1, s.2.2.2]
theorem blSums_ev (l : List S63) (p : List Int) (hl : l.length ≤ 1048576) (hp : p.length = l.length) (hx : ∀ x ∈ p, 0 ≤ x ∧ x ≤ 12) : ∃ K, ∀ k, K ≤ k → spec_blSums.f k l p = some (sumL (sumsTo l p p.length)) := by
  have h := ev_loop (F := fun k i => spec_blSums.l0 k p (sumL (sumsTo l p i)) l (l.length : Int) (i : Int)) (n := l.length) (res := fun _ => sumL (sumsTo l p p.length))
    (ev_suc 0 fun k _ => by simp only [spec_blSums.l0]; rw [if_neg (by omega), hp])
    (fun i hi K hK => by
      refine ⟨K + 10, fun k hk => ?_⟩
      obtain ⟨k, rfl⟩ : ∃ m, k = m + 6 := ⟨k - 6, by omega⟩
      have hr : 0 ≤ rd p (i : Int) ∧ rd p (i : Int) ≤ 12 := by
        have e : rd p (i : Int) = p[i]'(by omega) := by simp [rd, List.getD_eq_getElem?_getD, show i < p.length by omega]
        rw [e]
        exact hx _ (List.getElem_mem _)
      have hK2 := hK k (by omega)
      simp only [sumsTo, sumL] at hK2 ⊢
      generalize (sumsTo l p i).1 = s0 at hK2 ⊢
      generalize (sumsTo l p i).2.1 = s1 at hK2 ⊢
      generalize (sumsTo l p i).2.2.1 = s2 at hK2 ⊢
      generalize (sumsTo l p i).2.2.2 = s3 at hK2 ⊢
      simp only [spec_blSums.l0]
      rw [if_pos (by omega), if_pos (by omega), if_pos (by omega)]
      simp only [Option.bind_some]
      have c1 : (i : Int) < (p.length : Int) := by omega
      have c0 : (0 : Int) ≤ (i : Int) := by omega
      simp only [spec_blSums.l1, List.length_cons, List.length_nil, c0, c1, if_true]
      have t1 : wrap64 1 = 1 := w64 (by omega) (by omega)
      have t2 : wrap64 2 = 2 := w64 (by omega) (by omega)
      have t3 : wrap64 3 = 3 := w64 (by omega) (by omega)
      have t4 : wrap64 4 = 4 := w64 (by omega) (by omega)
      have ti : wrap64 ((i : Int) + 1) = (i : Int) + 1 := w64 (by omega) (by omega)
      have tr : wrap64 (rd p (i : Int)) = rd p (i : Int) := w64 (by omega) (by omega)
      simp [rd, t1, t2, t3, t4, ti] at hK2 tr ⊢
      rw [tr]
      exact hK2) 0 (Nat.zero_le _)
  obtain ⟨K, h⟩ := h
  refine ⟨K, fun k hk => ?_⟩
  unfold spec_blSums.f
  rw [if_pos (by decide)]
  exact h k hk
theorem blMeets_eq (u le mo im : Int) (s : Int × Int × Int × Int) : spec_blMeets.f u le mo im (sumL s) = some (meetsB s u le mo im) := by
  obtain ⟨s0, s1, s2, s3⟩ := s
  unfold spec_blMeets.f meetsB sumL
  simp only [List.length_cons, List.length_nil]
  rw [if_pos (by decide)]
  show (if rd [s0, s1, s2, s3] 0 = u then _ else _) = _
  rw [show rd [s0, s1, s2, s3] 0 = s0 from rfl, show rd [s0, s1, s2, s3] 1 = s1 from rfl, show rd [s0, s1, s2, s3] 2 = s2 from rfl]
  by_cases h1 : s0 = u
  · rw [if_pos h1, if_pos (by decide), l1In_eq, if_pos (by decide)]
    subst h1
    by_cases h2 : inr (wrap64 (le * s0)) (wrap64 (mo * s0)) s1 = true
    · simp only [Option.bind_some, if_pos h2]
      have h3 := (inr_iff _ _ _).1 h2
      simp [h3.1, h3.2]
    · simp only [Option.bind_some, if_neg h2]
      have h3 := (inr_false _ _ _).1 (Bool.eq_false_iff.mpr h2)
      simp only [beq_self_eq_true, Bool.true_and]
      by_cases h4 : wrap64 (le * s0) ≤ s1
      · rw [decide_eq_false (show ¬ s1 ≤ wrap64 (mo * s0) by omega)]; simp
      · rw [decide_eq_false h4]; simp
  · rw [if_neg h1, beq_eq_false_iff_ne.2 h1]
    simp
def wantOk (u le mo im : Int) : Bool := inr 1 12 u && (inr 0 1000 le && (inr le 1000 mo && inr 0 1000 im))
theorem wantOk_iff (u le mo im : Int) : wantOk u le mo im = true ↔ (1 ≤ u ∧ u ≤ 12) ∧ (0 ≤ le ∧ le ≤ 1000) ∧ (le ≤ mo ∧ mo ≤ 1000) ∧ (0 ≤ im ∧ im ≤ 1000) := by
  simp [wantOk, inr]
theorem blWanted_eq (u le mo im : Int) : spec_blWanted.f u le mo im = some (wantOk u le mo im) := by
  unfold spec_blWanted.f wantOk
  simp only [l1In_eq, Option.bind_some]
  by_cases h1 : inr 1 12 u = true <;> by_cases h2 : inr 0 1000 le = true <;> by_cases h3 : inr le 1000 mo = true <;> simp [h1, h2, h3]
theorem isWanted_eq (u le mo im : Int) : impl_IsWanted.f u le mo im = some (wantOk u le mo im) := by
  have h := wantOk_iff u le mo im
  unfold impl_IsWanted.f
  by_cases hw : wantOk u le mo im = true
  · have h2 := h.1 hw
    rw [hw, if_pos (by omega), if_pos (by omega), if_pos (by omega), if_pos (by omega), if_pos (by omega), if_pos (by omega), decide_eq_true (by omega)]
  · have h2 := mt h.2 hw
    rw [Bool.eq_false_iff.mpr hw]
    repeat (split; rotate_left; rfl)
    exact congrArg some (decide_eq_false (by omega))
theorem blAsked_ev (l : List S63) (hl : l.length ≤ 1048576) (u le mo im : Int) : ∃ K, ∀ k, K ≤ k → spec_blAsked.f k l u le mo im = some (binsOk l && wantOk u le mo im) := by
  obtain ⟨K, h⟩ := blBins_ev l hl
  refine ⟨K, fun k hk => ?_⟩
  unfold spec_blAsked.f
  rw [h k hk, blWanted_eq]
  simp only [Option.bind_some]
  by_cases hb : binsOk l = true
  · rw [if_pos hb, hb, Bool.true_and]
  · rw [if_neg hb, Bool.eq_false_iff.mpr hb, Bool.false_and]
def cntStep (l : List S63) (u le mo im : Int) (s : Int) (m : List Int) : Int := if meetsB (sumsTo l m m.length) u le mo im = true then wrap64 (s + 1) else s
theorem cnt_fold {l : List S63} {u le mo im : Int} : ∀ (L : List (List Int)) (s : Int), 0 ≤ s → s + (L.length : Int) ≤ 100000000 → s ≤ L.foldl (cntStep l u le mo im) s ∧ ((∃ m ∈ L, meetsB (sumsTo l m m.length) u le mo im = true) → s + 1 ≤ L.foldl (cntStep l u le mo im) s) ∧ ((∀ m ∈ L, ¬ meetsB (sumsTo l m m.length) u le mo im = true) → L.foldl (cntStep l u le mo im) s = s) := by
  intro L
  induction L with
  | nil => intro s _ _; exact ⟨by simp, fun ⟨m, hm, _⟩ => (by cases hm), fun _ => rfl⟩
  | cons m L ih =>
    intro s h0 h1
    rw [List.length_cons] at h1
    rw [List.foldl_cons]
    by_cases hm : meetsB (sumsTo l m m.length) u le mo im = true
    · have e : cntStep l u le mo im s m = s + 1 := by unfold cntStep; rw [if_pos hm, w64 (by omega) (by omega)]
      rw [e]
      obtain ⟨i1, i2, i3⟩ := ih (s + 1) (by omega) (by omega)
      exact ⟨by omega, fun _ => i1, fun h => absurd hm (h m List.mem_cons_self)⟩
    · have e : cntStep l u le mo im s m = s := by unfold cntStep; rw [if_neg hm]
      rw [e]
      obtain ⟨i1, i2, i3⟩ := ih s h0 (by omega)
      refine ⟨i1, fun ⟨x, hx, hxm⟩ => i2 ?_, fun h => i3 fun x hx => h x (List.mem_cons_of_mem _ hx)⟩
      rcases List.mem_cons.1 hx with q | hx
      · exact absurd (q ▸ hxm) hm
      · exact ⟨x, hx, hxm⟩
theorem cnt_pos {l : List S63} {u le mo im : Int} {P : List (List Int)} (hP : P.length ≤ 4826809) : 0 < P.foldl (cntStep l u le mo im) 0 ↔ ∃ m ∈ P, meetsB (sumsTo l m m.length) u le mo im = true := by
  obtain ⟨i1, i2, i3⟩ := cnt_fold (l := l) (u := u) (le := le) (mo := mo) (im := im) P 0 (by omega) (by omega)
  constructor
  · intro h
    apply Classical.byContradiction
    intro hn
    have := i3 (fun m hm hmm => hn ⟨m, hm, hmm⟩)
    omega
  · intro h; have := i2 h; omega
theorem count_tells (l : List S63) (hl : l.length ≤ 1048576) (u le mo im : Int) : ∃ r, (∃ K, ∀ k, K ≤ k → spec_CountBlends.f k l u le mo im = some r) ∧ (∃ K, ∀ k, K ≤ k → impl_CountBlends.f k l u le mo im = some r) ∧ r.2 = (binsOk l && wantOk u le mo im) ∧ ((binsOk l && wantOk u le mo im) = true → (0 < r.1 ↔ ∃ m ∈ partsAll l u, meetsB (sumsTo l m m.length) u le mo im = true)) := by
  obtain ⟨K1, h1⟩ := blAsked_ev l hl u le mo im
  obtain ⟨K2, h2⟩ := areBins_ev l hl
  have h3 := isWanted_eq u le mo im
  by_cases h : (binsOk l && wantOk u le mo im) = true
  · have h0 := h
    rw [h] at h1
    rw [Bool.and_eq_true] at h
    obtain ⟨g1, g2, g3⟩ := (binsOk_iff l).1 h.1
    have hw := (wantOk_iff u le mo im).1 h.2
    obtain ⟨P, hP⟩ : ∃ P, P = partsAll l u := ⟨_, rfl⟩
    have hPl : P.length ≤ 13 ^ 6 := by rw [hP]; exact Nat.le_trans (partsAll_len l u (by omega)) (Nat.pow_le_pow_right (by omega) g3)
    have hPl2 : P.length ≤ 4826809 := Nat.le_trans hPl (by decide)
    obtain ⟨K4, h4⟩ := blAll_ev l g3 u (by omega) (by omega)
    rw [← hP] at h4
    have hsp := ev_loop (F := fun k i => spec_CountBlends.l0 k l ((P.take i).foldl (cntStep l u le mo im) 0) P (P.length : Int) (i : Int) u le mo im) (n := P.length) (res := fun _ => (P.foldl (cntStep l u le mo im) 0, true))
      (ev_suc 0 fun k _ => by simp only [spec_CountBlends.l0]; rw [if_neg (by omega), List.take_of_length_le (Nat.le_refl _)])
      (fun i hi K hK => by
        obtain ⟨m1, m2⟩ := partsAll_mem l u (by omega) P[i] (by rw [← hP]; exact List.getElem_mem hi)
        obtain ⟨K5, h5⟩ := blSums_ev l P[i] hl m1 m2
        refine ev_suc (K + K5) fun k hk => ?_
        have hK2 := hK k (by omega)
        rw [List.take_succ_eq_append_getElem hi, List.foldl_append, List.foldl_cons, List.foldl_nil] at hK2
        simp only [cntStep] at hK2
        simp only [spec_CountBlends.l0]
        rw [if_pos (by omega), if_pos (by omega), if_pos (by omega), rdLLp P i hi, h5 k (by omega)]
        simp only [Option.bind_some]
        rw [blMeets_eq]
        simp only [Option.bind_some]
        have e9 : wrap64 ((i : Int) + 1) = ((i + 1 : Nat) : Int) := by rw [w64 (by omega) (by omega)]; omega
        rw [e9]
        by_cases hm : meetsB (sumsTo l P[i] P[i].length) u le mo im = true
        · rw [if_pos hm] at hK2 ⊢
          exact hK2
        · rw [if_neg hm] at hK2 ⊢
          exact hK2) 0 (Nat.zero_le _)
    obtain ⟨K5, h5⟩ := hsp
    obtain ⟨M', hf⟩ := fill_start l (impl_CountBlends.step l u le mo im) u 0
    obtain ⟨_, K6, h6⟩ := foldO_ev (fun _ => impl_CountBlends.step l u le mo im) (cntStep l u le mo im) (fun _ => True) P (fun a _ s _ => ⟨trivial, 0, fun _ _ => rfl⟩) 0 trivial
    rw [← hP, h6 K6 (Nat.le_refl _)] at hf
    refine ⟨(P.foldl (cntStep l u le mo im) 0, true), ⟨K1 + K4 + K5, fun k hk => ?_⟩, ⟨K2, fun k hk => ?_⟩, h0.symm, fun _ => by rw [← hP]; exact cnt_pos hPl2⟩
    · unfold spec_CountBlends.f
      rw [h1 k (by omega)]
      simp only [Option.bind_some]
      rw [if_pos trivial, h4 k (by omega)]
      exact h5 k (by omega)
    · unfold impl_CountBlends.f
      rw [h2 k hk, h3]
      simp only [Option.bind_some]
      rw [if_pos h.1, if_pos h.2, if_pos (by omega), hf]
      rfl
  · refine ⟨(0, false), ⟨K1, fun k hk => ?_⟩, ⟨K2, fun k hk => ?_⟩, (Bool.eq_false_iff.mpr h).symm, fun h' => absurd h' h⟩
    · unfold spec_CountBlends.f
      rw [h1 k hk]
      simp only [Option.bind_some]
      rw [if_neg h]
    · unfold impl_CountBlends.f
      rw [h2 k hk, h3]
      simp only [Option.bind_some]
      by_cases hb : binsOk l = true
      · rw [if_pos hb, if_neg (fun hw => h (by rw [hb, hw]; rfl))]
      · rw [if_neg hb]
def bestTT (l : List S63) (u le mo im : Int) (s : Option (List Int × Int)) (m : List Int) : Option (List Int × Int) :=
  if meetsB (sumsTo l m m.length) u le mo im = true then (match s with
    | none => some (m, scoreOf (sumsTo l m m.length))
    | some q => if q.2 < scoreOf (sumsTo l m m.length) then some (m, scoreOf (sumsTo l m m.length)) else s) else s
section
variable {l : List S63} {u le mo im : Int} {m : List Int}
theorem bestTT_no {s : Option (List Int × Int)} (hm : ¬ meetsB (sumsTo l m m.length) u le mo im = true) : bestTT l u le mo im s m = s := by unfold bestTT; rw [if_neg hm]
theorem bestTT_none (hm : meetsB (sumsTo l m m.length) u le mo im = true) : bestTT l u le mo im none m = some (m, scoreOf (sumsTo l m m.length)) := by unfold bestTT; rw [if_pos hm]
theorem bestTT_lt {q : List Int × Int} (hm : meetsB (sumsTo l m m.length) u le mo im = true) (h : q.2 < scoreOf (sumsTo l m m.length)) : bestTT l u le mo im (some q) m = some (m, scoreOf (sumsTo l m m.length)) := by unfold bestTT; rw [if_pos hm]; simp only; rw [if_pos h]
theorem bestTT_ge {q : List Int × Int} (hm : meetsB (sumsTo l m m.length) u le mo im = true) (h : ¬ q.2 < scoreOf (sumsTo l m m.length)) : bestTT l u le mo im (some q) m = some q := by unfold bestTT; rw [if_pos hm]; simp only; rw [if_neg h]
end
def toSp (s : Option (List Int × Int)) : List Int × Int := match s with | none => ([], 0) | some q => (q.1, - q.2)
def spRes (s : Option (List Int × Int)) : List Int × Bool := match s with | none => ([], false) | some q => (q.1, true)
def okB (P : List (List Int)) (l : List S63) (s : Option (List Int × Int)) : Prop := ∀ q, s = some q → q.1 ∈ P ∧ q.2 = scoreOf (sumsTo l q.1 q.1.length)
theorem okB_step {P : List (List Int)} {l : List S63} {u le mo im : Int} {s : Option (List Int × Int)} (h : okB P l s) {m : List Int} (hm : m ∈ P) : okB P l (bestTT l u le mo im s m) := by
  have hn : okB P l (some (m, scoreOf (sumsTo l m m.length))) := by
    intro q hq
    simp only [Option.some.injEq] at hq
    subst hq
    exact ⟨hm, rfl⟩
  unfold bestTT
  split
  · cases s with
    | none => exact hn
    | some q =>
      simp only
      split
      · exact hn
      · exact h
  · exact h
theorem okB_fold {P : List (List Int)} {l : List S63} {u le mo im : Int} : ∀ (L : List (List Int)) (s : Option (List Int × Int)), (∀ m ∈ L, m ∈ P) → okB P l s → okB P l (L.foldl (bestTT l u le mo im) s) := by
  intro L
  induction L with
  | nil => intro s _ h; exact h
  | cons m L ih => intro s hL h; exact ih _ (fun x hx => hL x (List.mem_cons_of_mem _ hx)) (okB_step h (hL m List.mem_cons_self))
set_option maxHeartbeats 2000000 in
theorem blBest_ev (l : List S63) (hl1 : 1 ≤ l.length) (hl6 : l.length ≤ 6) (u le mo im : Int) (hu0 : 0 ≤ u) (hu12 : u ≤ 12) (x2 x3 : Int) (hx : 0 ≤ x2 ∧ x2 < 4) (hkey : ∀ m ∈ partsAll l u, scoreOf (sumsTo l m m.length) = - wrap64 (x3 * rd (sumL (sumsTo l m m.length)) x2)) :
    ∃ K, ∀ k, K ≤ k → spec_blBest.f k l u le mo im x2 x3 = some (spRes ((partsAll l u).foldl (bestTT l u le mo im) none)) := by
  obtain ⟨P, hP⟩ : ∃ P, P = partsAll l u := ⟨_, rfl⟩
  have hPl : P.length ≤ 4826809 := by rw [hP]; exact Nat.le_trans (Nat.le_trans (partsAll_len l u (by omega)) (Nat.pow_le_pow_right (by omega) hl6)) (by decide)
  obtain ⟨K4, h4⟩ := blAll_ev l hl6 u (by omega) (by omega)
  rw [← hP] at h4 hkey ⊢
  have hmem : ∀ m ∈ P, m.length = l.length ∧ ∀ x ∈ m, 0 ≤ x ∧ x ≤ 12 := fun m hm => partsAll_mem l u (by omega) m (by rw [← hP]; exact hm)
  have hokP : ∀ i, okB P l ((P.take i).foldl (bestTT l u le mo im) none) := fun i => okB_fold _ _ (fun m hm => List.mem_of_mem_take hm) (fun q hq => by cases hq)
  have hsp := ev_loop (F := fun k i => spec_blBest.l0 k l x2 x3 (toSp ((P.take i).foldl (bestTT l u le mo im) none)).1 (toSp ((P.take i).foldl (bestTT l u le mo im) none)).2 P (P.length : Int) (i : Int) u le mo im) (n := P.length) (res := fun _ => spRes (P.foldl (bestTT l u le mo im) none))
    (ev_suc 0 fun k _ => by
      simp only [spec_blBest.l0]
      rw [if_neg (by omega), List.take_of_length_le (Nat.le_refl _)]
      have hok := hokP P.length
      rw [List.take_of_length_le (Nat.le_refl _)] at hok
      cases hF : P.foldl (bestTT l u le mo im) none with
      | none => rfl
      | some q =>
        have := (hmem q.1 (hok q hF).1).1
        have hd : decide ((q.1.length : Int) > 0) = true := decide_eq_true (by omega)
        exact congrArg (fun b => some (q.1, b)) hd)
    (fun i hi K hK => by
      have hmP : P[i] ∈ P := List.getElem_mem hi
      obtain ⟨m1, m2⟩ := hmem P[i] hmP
      obtain ⟨K5, h5⟩ := blSums_ev l P[i] (by omega) m1 m2
      refine ev_suc (K + K5) fun k hk => ?_
      have hK2 := hK k (by omega)
      rw [List.take_succ_eq_append_getElem hi, List.foldl_append, List.foldl_cons, List.foldl_nil] at hK2
      have hok := hokP i
      generalize (P.take i).foldl (bestTT l u le mo im) none = s at hK2 hok ⊢
      have c0 : (0 : Int) ≤ (i : Int) := Int.natCast_nonneg i
      have c1 : (i : Int) < (P.length : Int) := Int.ofNat_lt.2 hi
      have hlen : x2 < ((sumL (sumsTo l P[i] P[i].length)).length : Int) := hx.2
      have h5' := h5 k (by omega)
      have e9 : wrap64 ((i : Int) + 1) = ((i + 1 : Nat) : Int) := w64s (by omega)
      have hk1 := hkey P[i] hmP
      simp only [spec_blBest.l0]
      rw [if_pos c1, if_pos c0, if_pos c1, rdLLp P i hi, h5']
      simp only [Option.bind_some]
      rw [blMeets_eq]
      simp only [Option.bind_some]
      rw [e9]
      generalize wrap64 (x3 * rd (sumL (sumsTo l P[i] P[i].length)) x2) = W at hk1 ⊢
      clear e9 hkey hPl
      by_cases hm : meetsB (sumsTo l P[i] P[i].length) u le mo im = true
      · rw [if_pos hm]
        cases s with
        | none =>
          rw [if_pos (show (((toSp none).1.length : Nat) : Int) = 0 from rfl), if_pos hx.1, if_pos hlen]
          rw [bestTT_none hm] at hK2
          simp only [toSp] at hK2
          rw [hk1, Int.neg_neg] at hK2
          exact hK2
        | some q =>
          have hq := (hmem q.1 (hok q rfl).1).1
          have hq1 : ¬ ((((toSp (some q)).1.length : Nat) : Int) = 0) := by show ¬ ((q.1.length : Int) = 0); omega
          rw [if_neg hq1, if_pos hx.1, if_pos hlen]
          by_cases hlt : q.2 < scoreOf (sumsTo l P[i] P[i].length)
          · rw [bestTT_lt hm hlt] at hK2
            have hlt2 : W < (toSp (some q)).2 := by show W < -q.2; omega
            rw [if_pos hlt2]
            simp only [toSp] at hK2
            rw [hk1, Int.neg_neg] at hK2
            exact hK2
          · rw [bestTT_ge hm hlt] at hK2
            have hlt2 : ¬ (W < (toSp (some q)).2) := by show ¬ (W < -q.2); omega
            rw [if_neg hlt2]
            exact hK2
      · rw [if_neg hm]
        rw [bestTT_no hm] at hK2
        exact hK2) 0 (Nat.zero_le _)
  obtain ⟨K5, h5⟩ := hsp
  refine ⟨K4 + K5, fun k hk => ?_⟩
  unfold spec_blBest.f
  rw [h4 k (by omega)]
  exact h5 k (by omega)
theorem sumsTo_le (l : List S63) (hb : ∀ x ∈ l, binOk x = true) (hl : l.length ≤ 6) (p : List Int) (hp : p.length = l.length) (hx : ∀ x ∈ p, 0 ≤ x ∧ x ≤ 12) : ∀ i, i ≤ l.length →
    (0 ≤ (sumsTo l p i).2.1 ∧ (sumsTo l p i).2.1 ≤ 12000 * (i : Int)) ∧ (0 ≤ (sumsTo l p i).2.2.2 ∧ (sumsTo l p i).2.2.2 ≤ 12000 * (i : Int)) := by
  intro i
  induction i with
  | zero => intro _; simp [sumsTo]
  | succ i ih =>
    intro hi
    obtain ⟨⟨a1, a2⟩, a3, a4⟩ := ih (by omega)
    have e : rd p (i : Int) = p[i]'(by omega) := by simp [rd, List.getD_eq_getElem?_getD, show i < p.length by omega]
    have hr := hx _ (List.getElem_mem (show i < p.length by omega))
    rw [← e] at hr
    have hB := (binOk_iff _).1 (hb _ (List.getElem_mem (show i < l.length by omega)))
    rw [← rdB_nat l i (by omega)] at hB
    have mul : ∀ f : Int, 0 ≤ f → f ≤ 1000 → 0 ≤ rd p (i : Int) * f ∧ rd p (i : Int) * f ≤ 12000 := fun f h0 h1 => ⟨Int.mul_nonneg hr.1 h0, by
      have h := Int.mul_le_mul hr.2 h1 h0 (by omega : (0 : Int) ≤ 12)
      omega⟩
    have m1 := mul _ hB.2.1.1 hB.2.1.2
    have m2 := mul _ hB.2.2.2.1 hB.2.2.2.2
    simp only [sumsTo]
    rw [w64 (x := rd p (i : Int) * (rd_T63 l (i : Int)).f1) (by omega) (by omega), w64 (x := rd p (i : Int) * (rd_T63 l (i : Int)).f3) (by omega) (by omega), w64 (x := (sumsTo l p i).2.1 + _) (by omega) (by omega), w64 (x := (sumsTo l p i).2.2.2 + _) (by omega) (by omega)]
    omega
theorem bestFold {l : List S63} {u le mo im : Int} : ∀ (L : List (List Int)) (s : Option (List Int × Int)), (∀ q, s = some q → ∃ q', L.foldl (bestTT l u le mo im) s = some q' ∧ q.2 ≤ q'.2) ∧ (∀ m ∈ L, meetsB (sumsTo l m m.length) u le mo im = true → ∃ q', L.foldl (bestTT l u le mo im) s = some q' ∧ scoreOf (sumsTo l m m.length) ≤ q'.2) ∧ ∀ q', L.foldl (bestTT l u le mo im) s = some q' → s = some q' ∨ (q'.1 ∈ L ∧ meetsB (sumsTo l q'.1 q'.1.length) u le mo im = true) := by
  intro L
  induction L with
  | nil => intro s; exact ⟨fun q h => ⟨q, h, Int.le_refl _⟩, fun m hm => (by cases hm), fun q' h => .inl h⟩
  | cons m L ih =>
    intro s
    obtain ⟨i1, i2, i3⟩ := ih (bestTT l u le mo im s m)
    rw [List.foldl_cons]
    by_cases hm : meetsB (sumsTo l m m.length) u le mo im = true
    · obtain ⟨q0, e0, g1, g2, g3⟩ : ∃ q0 : List Int × Int, bestTT l u le mo im s m = some q0 ∧ scoreOf (sumsTo l m m.length) ≤ q0.2 ∧ (∀ q, s = some q → q.2 ≤ q0.2) ∧ (s = some q0 ∨ q0.1 = m) := by
        cases s with
        | none => exact ⟨_, bestTT_none hm, Int.le_refl _, fun q h => (by cases h), .inr rfl⟩
        | some q =>
          by_cases hlt : q.2 < scoreOf (sumsTo l m m.length)
          · exact ⟨_, bestTT_lt hm hlt, Int.le_refl _, fun q' h => by obtain rfl := Option.some.inj h; simp only; omega, .inr rfl⟩
          · exact ⟨q, bestTT_ge hm hlt, by omega, fun q' h => by obtain rfl := Option.some.inj h; omega, .inl rfl⟩
      obtain ⟨q1, e1, g4⟩ := i1 q0 e0
      refine ⟨fun q h => ⟨q1, e1, by have := g2 q h; omega⟩, fun x hx hxm => ?_, fun q' h => ?_⟩
      · rcases List.mem_cons.1 hx with h | hx
        · exact ⟨q1, e1, by rw [h]; omega⟩
        · exact i2 x hx hxm
      · rcases i3 q' h with h2 | h2
        · rw [e0] at h2
          obtain rfl := Option.some.inj h2
          rcases g3 with h3 | h3
          · exact .inl h3
          · exact .inr ⟨by rw [h3]; exact List.mem_cons_self, by rw [h3]; exact hm⟩
        · exact .inr ⟨List.mem_cons_of_mem _ h2.1, h2.2⟩
    · rw [bestTT_no hm] at i1 i2 i3 ⊢
      refine ⟨i1, fun x hx hxm => ?_, fun q' h => ?_⟩
      · rcases List.mem_cons.1 hx with h | hx
        · exact absurd (h ▸ hxm) hm
        · exact i2 x hx hxm
      · rcases i3 q' h with h2 | h2
        · exact .inl h2
        · exact .inr ⟨List.mem_cons_of_mem _ h2.1, h2.2⟩
def bestTTR (l : List S63) (u le mo im : Int) (s : Option (List Int × Int)) (m : List Int) : Option (List Int × Int) :=
  if meetsB (sumsTo l m m.length) u le mo im = true then (match s with
    | none => some (m, scoreOfR (sumsTo l m m.length))
    | some q => if q.2 < scoreOfR (sumsTo l m m.length) then some (m, scoreOfR (sumsTo l m m.length)) else s) else s
section
variable {l : List S63} {u le mo im : Int} {m : List Int}
theorem bestTT_noR {s : Option (List Int × Int)} (hm : ¬ meetsB (sumsTo l m m.length) u le mo im = true) : bestTTR l u le mo im s m = s := by unfold bestTTR; rw [if_neg hm]
theorem bestTT_noneR (hm : meetsB (sumsTo l m m.length) u le mo im = true) : bestTTR l u le mo im none m = some (m, scoreOfR (sumsTo l m m.length)) := by unfold bestTTR; rw [if_pos hm]
theorem bestTT_ltR {q : List Int × Int} (hm : meetsB (sumsTo l m m.length) u le mo im = true) (h : q.2 < scoreOfR (sumsTo l m m.length)) : bestTTR l u le mo im (some q) m = some (m, scoreOfR (sumsTo l m m.length)) := by unfold bestTTR; rw [if_pos hm]; simp only; rw [if_pos h]
theorem bestTT_geR {q : List Int × Int} (hm : meetsB (sumsTo l m m.length) u le mo im = true) (h : ¬ q.2 < scoreOfR (sumsTo l m m.length)) : bestTTR l u le mo im (some q) m = some q := by unfold bestTTR; rw [if_pos hm]; simp only; rw [if_neg h]
end
def toSpR (s : Option (List Int × Int)) : List Int × Int := match s with | none => ([], 0) | some q => (q.1, - q.2)
def spResR (s : Option (List Int × Int)) : List Int × Bool := match s with | none => ([], false) | some q => (q.1, true)
def okBR (P : List (List Int)) (l : List S63) (s : Option (List Int × Int)) : Prop := ∀ q, s = some q → q.1 ∈ P ∧ q.2 = scoreOfR (sumsTo l q.1 q.1.length)
theorem okB_stepR {P : List (List Int)} {l : List S63} {u le mo im : Int} {s : Option (List Int × Int)} (h : okBR P l s) {m : List Int} (hm : m ∈ P) : okBR P l (bestTTR l u le mo im s m) := by
  have hn : okBR P l (some (m, scoreOfR (sumsTo l m m.length))) := by
    intro q hq
    simp only [Option.some.injEq] at hq
    subst hq
    exact ⟨hm, rfl⟩
  unfold bestTTR
  split
  · cases s with
    | none => exact hn
    | some q =>
      simp only
      split
      · exact hn
      · exact h
  · exact h
theorem okB_foldR {P : List (List Int)} {l : List S63} {u le mo im : Int} : ∀ (L : List (List Int)) (s : Option (List Int × Int)), (∀ m ∈ L, m ∈ P) → okBR P l s → okBR P l (L.foldl (bestTTR l u le mo im) s) := by
  intro L
  induction L with
  | nil => intro s _ h; exact h
  | cons m L ih => intro s hL h; exact ih _ (fun x hx => hL x (List.mem_cons_of_mem _ hx)) (okB_stepR h (hL m List.mem_cons_self))
set_option maxHeartbeats 2000000 in
theorem blBest_evR (l : List S63) (hl1 : 1 ≤ l.length) (hl6 : l.length ≤ 6) (u le mo im : Int) (hu0 : 0 ≤ u) (hu12 : u ≤ 12) (x2 x3 : Int) (hx : 0 ≤ x2 ∧ x2 < 4) (hkey : ∀ m ∈ partsAll l u, scoreOfR (sumsTo l m m.length) = - wrap64 (x3 * rd (sumL (sumsTo l m m.length)) x2)) :
    ∃ K, ∀ k, K ≤ k → spec_blBest.f k l u le mo im x2 x3 = some (spResR ((partsAll l u).foldl (bestTTR l u le mo im) none)) := by
  obtain ⟨P, hP⟩ : ∃ P, P = partsAll l u := ⟨_, rfl⟩
  have hPl : P.length ≤ 4826809 := by rw [hP]; exact Nat.le_trans (Nat.le_trans (partsAll_len l u (by omega)) (Nat.pow_le_pow_right (by omega) hl6)) (by decide)
  obtain ⟨K4, h4⟩ := blAll_ev l hl6 u (by omega) (by omega)
  rw [← hP] at h4 hkey ⊢
  have hmem : ∀ m ∈ P, m.length = l.length ∧ ∀ x ∈ m, 0 ≤ x ∧ x ≤ 12 := fun m hm => partsAll_mem l u (by omega) m (by rw [← hP]; exact hm)
  have hokP : ∀ i, okBR P l ((P.take i).foldl (bestTTR l u le mo im) none) := fun i => okB_foldR _ _ (fun m hm => List.mem_of_mem_take hm) (fun q hq => by cases hq)
  have hsp := ev_loop (F := fun k i => spec_blBest.l0 k l x2 x3 (toSpR ((P.take i).foldl (bestTTR l u le mo im) none)).1 (toSpR ((P.take i).foldl (bestTTR l u le mo im) none)).2 P (P.length : Int) (i : Int) u le mo im) (n := P.length) (res := fun _ => spResR (P.foldl (bestTTR l u le mo im) none))
    (ev_suc 0 fun k _ => by
      simp only [spec_blBest.l0]
      rw [if_neg (by omega), List.take_of_length_le (Nat.le_refl _)]
      have hok := hokP P.length
      rw [List.take_of_length_le (Nat.le_refl _)] at hok
      cases hF : P.foldl (bestTTR l u le mo im) none with
      | none => rfl
      | some q =>
        have := (hmem q.1 (hok q hF).1).1
        have hd : decide ((q.1.length : Int) > 0) = true := decide_eq_true (by omega)
        exact congrArg (fun b => some (q.1, b)) hd)
    (fun i hi K hK => by
      have hmP : P[i] ∈ P := List.getElem_mem hi
      obtain ⟨m1, m2⟩ := hmem P[i] hmP
      obtain ⟨K5, h5⟩ := blSums_ev l P[i] (by omega) m1 m2
      refine ev_suc (K + K5) fun k hk => ?_
      have hK2 := hK k (by omega)
      rw [List.take_succ_eq_append_getElem hi, List.foldl_append, List.foldl_cons, List.foldl_nil] at hK2
      have hok := hokP i
      generalize (P.take i).foldl (bestTTR l u le mo im) none = s at hK2 hok ⊢
      have c0 : (0 : Int) ≤ (i : Int) := Int.natCast_nonneg i
      have c1 : (i : Int) < (P.length : Int) := Int.ofNat_lt.2 hi
      have hlen : x2 < ((sumL (sumsTo l P[i] P[i].length)).length : Int) := hx.2
      have h5' := h5 k (by omega)
      have e9 : wrap64 ((i : Int) + 1) = ((i + 1 : Nat) : Int) := w64s (by omega)
      have hk1 := hkey P[i] hmP
      simp only [spec_blBest.l0]
      rw [if_pos c1, if_pos c0, if_pos c1, rdLLp P i hi, h5']
      simp only [Option.bind_some]
      rw [blMeets_eq]
      simp only [Option.bind_some]
      rw [e9]
      generalize wrap64 (x3 * rd (sumL (sumsTo l P[i] P[i].length)) x2) = W at hk1 ⊢
      clear e9 hkey hPl
      by_cases hm : meetsB (sumsTo l P[i] P[i].length) u le mo im = true
      · rw [if_pos hm]
        cases s with
        | none =>
          rw [if_pos (show (((toSpR none).1.length : Nat) : Int) = 0 from rfl), if_pos hx.1, if_pos hlen]
          rw [bestTT_noneR hm] at hK2
          simp only [toSpR] at hK2
          rw [hk1, Int.neg_neg] at hK2
          exact hK2
        | some q =>
          have hq := (hmem q.1 (hok q rfl).1).1
          have hq1 : ¬ ((((toSpR (some q)).1.length : Nat) : Int) = 0) := by show ¬ ((q.1.length : Int) = 0); omega
          rw [if_neg hq1, if_pos hx.1, if_pos hlen]
          by_cases hlt : q.2 < scoreOfR (sumsTo l P[i] P[i].length)
          · rw [bestTT_ltR hm hlt] at hK2
            have hlt2 : W < (toSpR (some q)).2 := by show W < -q.2; omega
            rw [if_pos hlt2]
            simp only [toSpR] at hK2
            rw [hk1, Int.neg_neg] at hK2
            exact hK2
          · rw [bestTT_geR hm hlt] at hK2
            have hlt2 : ¬ (W < (toSpR (some q)).2) := by show ¬ (W < -q.2); omega
            rw [if_neg hlt2]
            exact hK2
      · rw [if_neg hm]
        rw [bestTT_noR hm] at hK2
        exact hK2) 0 (Nat.zero_le _)
  obtain ⟨K5, h5⟩ := hsp
  refine ⟨K4 + K5, fun k hk => ?_⟩
  unfold spec_blBest.f
  rw [h4 k (by omega)]
  exact h5 k (by omega)
theorem sumsTo_leR (l : List S63) (hb : ∀ x ∈ l, binOk x = true) (hl : l.length ≤ 6) (p : List Int) (hp : p.length = l.length) (hx : ∀ x ∈ p, 0 ≤ x ∧ x ≤ 12) : ∀ i, i ≤ l.length →
    (0 ≤ (sumsTo l p i).2.1 ∧ (sumsTo l p i).2.1 ≤ 12000 * (i : Int)) ∧ (0 ≤ (sumsTo l p i).2.2.2 ∧ (sumsTo l p i).2.2.2 ≤ 12000 * (i : Int)) := by
  intro i
  induction i with
  | zero => intro _; simp [sumsTo]
  | succ i ih =>
    intro hi
    obtain ⟨⟨a1, a2⟩, a3, a4⟩ := ih (by omega)
    have e : rd p (i : Int) = p[i]'(by omega) := by simp [rd, List.getD_eq_getElem?_getD, show i < p.length by omega]
    have hr := hx _ (List.getElem_mem (show i < p.length by omega))
    rw [← e] at hr
    have hB := (binOk_iff _).1 (hb _ (List.getElem_mem (show i < l.length by omega)))
    rw [← rdB_nat l i (by omega)] at hB
    have mul : ∀ f : Int, 0 ≤ f → f ≤ 1000 → 0 ≤ rd p (i : Int) * f ∧ rd p (i : Int) * f ≤ 12000 := fun f h0 h1 => ⟨Int.mul_nonneg hr.1 h0, by
      have h := Int.mul_le_mul hr.2 h1 h0 (by omega : (0 : Int) ≤ 12)
      omega⟩
    have m1 := mul _ hB.2.1.1 hB.2.1.2
    have m2 := mul _ hB.2.2.2.1 hB.2.2.2.2
    simp only [sumsTo]
    rw [w64 (x := rd p (i : Int) * (rd_T63 l (i : Int)).f1) (by omega) (by omega), w64 (x := rd p (i : Int) * (rd_T63 l (i : Int)).f3) (by omega) (by omega), w64 (x := (sumsTo l p i).2.1 + _) (by omega) (by omega), w64 (x := (sumsTo l p i).2.2.2 + _) (by omega) (by omega)]
    omega
theorem bestFoldR {l : List S63} {u le mo im : Int} : ∀ (L : List (List Int)) (s : Option (List Int × Int)), (∀ q, s = some q → ∃ q', L.foldl (bestTTR l u le mo im) s = some q' ∧ q.2 ≤ q'.2) ∧ (∀ m ∈ L, meetsB (sumsTo l m m.length) u le mo im = true → ∃ q', L.foldl (bestTTR l u le mo im) s = some q' ∧ scoreOfR (sumsTo l m m.length) ≤ q'.2) ∧ ∀ q', L.foldl (bestTTR l u le mo im) s = some q' → s = some q' ∨ (q'.1 ∈ L ∧ meetsB (sumsTo l q'.1 q'.1.length) u le mo im = true) := by
  intro L
  induction L with
  | nil => intro s; exact ⟨fun q h => ⟨q, h, Int.le_refl _⟩, fun m hm => (by cases hm), fun q' h => .inl h⟩
  | cons m L ih =>
    intro s
    obtain ⟨i1, i2, i3⟩ := ih (bestTTR l u le mo im s m)
    rw [List.foldl_cons]
    by_cases hm : meetsB (sumsTo l m m.length) u le mo im = true
    · obtain ⟨q0, e0, g1, g2, g3⟩ : ∃ q0 : List Int × Int, bestTTR l u le mo im s m = some q0 ∧ scoreOfR (sumsTo l m m.length) ≤ q0.2 ∧ (∀ q, s = some q → q.2 ≤ q0.2) ∧ (s = some q0 ∨ q0.1 = m) := by
        cases s with
        | none => exact ⟨_, bestTT_noneR hm, Int.le_refl _, fun q h => (by cases h), .inr rfl⟩
        | some q =>
          by_cases hlt : q.2 < scoreOfR (sumsTo l m m.length)
          · exact ⟨_, bestTT_ltR hm hlt, Int.le_refl _, fun q' h => by obtain rfl := Option.some.inj h; simp only; omega, .inr rfl⟩
          · exact ⟨q, bestTT_geR hm hlt, by omega, fun q' h => by obtain rfl := Option.some.inj h; omega, .inl rfl⟩
      obtain ⟨q1, e1, g4⟩ := i1 q0 e0
      refine ⟨fun q h => ⟨q1, e1, by have := g2 q h; omega⟩, fun x hx hxm => ?_, fun q' h => ?_⟩
      · rcases List.mem_cons.1 hx with h | hx
        · exact ⟨q1, e1, by rw [h]; omega⟩
        · exact i2 x hx hxm
      · rcases i3 q' h with h2 | h2
        · rw [e0] at h2
          obtain rfl := Option.some.inj h2
          rcases g3 with h3 | h3
          · exact .inl h3
          · exact .inr ⟨by rw [h3]; exact List.mem_cons_self, by rw [h3]; exact hm⟩
        · exact .inr ⟨List.mem_cons_of_mem _ h2.1, h2.2⟩
    · rw [bestTT_noR hm] at i1 i2 i3 ⊢
      refine ⟨i1, fun x hx hxm => ?_, fun q' h => ?_⟩
      · rcases List.mem_cons.1 hx with h | hx
        · exact absurd (h ▸ hxm) hm
        · exact i2 x hx hxm
      · rcases i3 q' h with h2 | h2
        · exact .inl h2
        · exact .inr ⟨List.mem_cons_of_mem _ h2.1, h2.2⟩
theorem richest_tells (l : List S63) (hl : l.length ≤ 1048576) (u le mo im : Int) : ∃ r, (∃ K, ∀ k, K ≤ k → spec_RichestBlend.f k l u le mo im = some r) ∧ (∃ K, ∀ k, K ≤ k → impl_RichestBlend.f k l u le mo im = some r) ∧ r.1.length ≤ 6 ∧ (r.2 = true → (binsOk l && wantOk u le mo im) = true ∧ r.1 ∈ partsAll l u ∧ meetsB (sumsTo l r.1 r.1.length) u le mo im = true) ∧ ((binsOk l && wantOk u le mo im) = true → ∀ m ∈ partsAll l u, meetsB (sumsTo l m m.length) u le mo im = true → r.2 = true ∧ (sumsTo l m m.length).2.1 ≤ (sumsTo l r.1 r.1.length).2.1) := by
  obtain ⟨K1, h1⟩ := blAsked_ev l hl u le mo im
  obtain ⟨K2, h2⟩ := areBins_ev l hl
  have h3 := isWanted_eq u le mo im
  by_cases h : (binsOk l && wantOk u le mo im) = true
  · have h0 := h
    rw [h] at h1
    rw [Bool.and_eq_true] at h
    obtain ⟨g1, g2, g3⟩ := (binsOk_iff l).1 h.1
    have hw := (wantOk_iff u le mo im).1 h.2
    obtain ⟨K4, h4⟩ := blBest_evR l g2 g3 u le mo im (by omega) (by omega) 1 (-1) (by omega) (fun m hm => by
      obtain ⟨m1, m2⟩ := partsAll_mem l u (by omega) m hm
      have hs := (sumsTo_leR l g1 g3 m m1 m2 m.length (by omega)).1
      rw [show rd (sumL (sumsTo l m m.length)) 1 = (sumsTo l m m.length).2.1 from rfl, w64 (by omega) (by omega)]
      simp only [scoreOfR]
      omega)
    obtain ⟨M', hf⟩ := fill_start l (bestStepR l u le mo im) u none
    obtain ⟨_, K6, h6⟩ := foldO_ev (fun _ => bestStepR l u le mo im) (bestTTR l u le mo im) (fun _ => True) (partsAll l u) (fun a _ s _ => ⟨trivial, 0, fun _ _ => rfl⟩) none trivial
    rw [h6 K6 (Nat.le_refl _)] at hf
    have hok := okB_foldR (P := partsAll l u) (l := l) (u := u) (le := le) (mo := mo) (im := im) (partsAll l u) none (fun m hm => hm) (fun q hq => by cases hq)
    have hbt := bestFoldR (l := l) (u := u) (le := le) (mo := mo) (im := im) (partsAll l u) none
    generalize (partsAll l u).foldl (bestTTR l u le mo im) none = F at h4 hf hok hbt
    refine ⟨spResR F, ⟨K1 + K4, fun k hk => ?_⟩, ⟨K2, fun k hk => ?_⟩, ?_⟩
    · unfold spec_RichestBlend.f
      rw [h1 k (by omega)]
      simp only [Option.bind_some]
      rw [if_pos trivial, h4 k (by omega)]
      rfl
    · unfold impl_RichestBlend.f
      rw [h2 k hk, h3]
      simp only [Option.bind_some]
      rw [if_pos h.1, if_pos h.2, if_pos (by omega), hf]
      cases F <;> rfl
    · cases F with
      | none => exact ⟨by simp [spResR], (fun h' => by cases h'), fun _ m hm hmm => by obtain ⟨q', e, _⟩ := hbt.2.1 m hm hmm; cases e⟩
      | some q =>
        obtain ⟨q1, q2⟩ := hok q rfl
        have := (partsAll_mem l u (by omega) q.1 q1).1
        refine ⟨by simp only [spResR]; omega, fun _ => ⟨h0, q1, (hbt.2.2 q rfl).elim (fun e => by cases e) (fun e => e.2)⟩, fun _ m hm hmm => ⟨rfl, ?_⟩⟩
        obtain ⟨q', e, e2⟩ := hbt.2.1 m hm hmm
        obtain rfl := Option.some.inj e
        rw [q2] at e2
        exact e2
  · refine ⟨([], false), ⟨K1, fun k hk => ?_⟩, ⟨K2, fun k hk => ?_⟩, by simp, (fun h' => by cases h'), fun h' => absurd h' h⟩
    · unfold spec_RichestBlend.f
      rw [h1 k hk]
      simp only [Option.bind_some]
      rw [if_neg h]
    · unfold impl_RichestBlend.f
      rw [h2 k hk, h3]
      simp only [Option.bind_some]
      by_cases hb : binsOk l = true
      · rw [if_pos hb, if_neg (fun hw => h (by rw [hb, hw]; rfl))]
      · rw [if_neg hb]
theorem cheapest_tells (l : List S63) (hl : l.length ≤ 1048576) (u le mo im : Int) : ∃ r, (∃ K, ∀ k, K ≤ k → spec_CheapestBlend.f k l u le mo im = some r) ∧ (∃ K, ∀ k, K ≤ k → impl_CheapestBlend.f k l u le mo im = some r) ∧ r.1.length ≤ 6 ∧ (r.2.2 = true → (binsOk l && wantOk u le mo im) = true ∧ r.1 ∈ partsAll l u ∧ meetsB (sumsTo l r.1 r.1.length) u le mo im = true ∧ r.2.1 = (sumsTo l r.1 r.1.length).2.2.2) ∧ ((binsOk l && wantOk u le mo im) = true → ∀ m ∈ partsAll l u, meetsB (sumsTo l m m.length) u le mo im = true → r.2.2 = true ∧ r.2.1 ≤ (sumsTo l m m.length).2.2.2) := by
  obtain ⟨K1, h1⟩ := blAsked_ev l hl u le mo im
  obtain ⟨K2, h2⟩ := areBins_ev l hl
  have h3 := isWanted_eq u le mo im
  by_cases h : (binsOk l && wantOk u le mo im) = true
  · have h0 := h
    rw [h] at h1
    rw [Bool.and_eq_true] at h
    obtain ⟨g1, g2, g3⟩ := (binsOk_iff l).1 h.1
    have hw := (wantOk_iff u le mo im).1 h.2
    have hsum : ∀ m ∈ partsAll l u, 0 ≤ (sumsTo l m m.length).2.2.2 ∧ (sumsTo l m m.length).2.2.2 ≤ 72000 := fun m hm => by
      obtain ⟨m1, m2⟩ := partsAll_mem l u (by omega) m hm
      have hs := (sumsTo_le l g1 g3 m m1 m2 m.length (by omega)).2
      omega
    have hsc : ∀ m ∈ partsAll l u, scoreOf (sumsTo l m m.length) = - (sumsTo l m m.length).2.2.2 := fun m hm => by
      have hs := hsum m hm
      simp only [scoreOf]
      rw [w64 (by omega) (by omega)]
    obtain ⟨K4, h4⟩ := blBest_ev l g2 g3 u le mo im (by omega) (by omega) 3 1 (by omega) (fun m hm => by
      have hs := hsum m hm
      rw [show rd (sumL (sumsTo l m m.length)) 3 = (sumsTo l m m.length).2.2.2 from rfl, w64 (by omega) (by omega), hsc m hm]
      omega)
    obtain ⟨M', hf⟩ := fill_start l (bestStep l u le mo im) u none
    obtain ⟨_, K6, h6⟩ := foldO_ev (fun _ => bestStep l u le mo im) (bestTT l u le mo im) (fun _ => True) (partsAll l u) (fun a _ s _ => ⟨trivial, 0, fun _ _ => rfl⟩) none trivial
    rw [h6 K6 (Nat.le_refl _)] at hf
    have hok := okB_fold (P := partsAll l u) (l := l) (u := u) (le := le) (mo := mo) (im := im) (partsAll l u) none (fun m hm => hm) (fun q hq => by cases hq)
    have hbt := bestFold (l := l) (u := u) (le := le) (mo := mo) (im := im) (partsAll l u) none
    generalize (partsAll l u).foldl (bestTT l u le mo im) none = F at h4 hf hok hbt
    cases F with
    | none =>
      refine ⟨([], 0, false), ⟨K1 + K4, fun k hk => ?_⟩, ⟨K2, fun k hk => ?_⟩, by simp, (fun h' => by cases h'), fun _ m hm hmm => by obtain ⟨q', e, _⟩ := hbt.2.1 m hm hmm; cases e⟩
      · unfold spec_CheapestBlend.f
        rw [h1 k (by omega)]
        simp only [Option.bind_some]
        rw [if_pos trivial, h4 k (by omega)]
        rfl
      · unfold impl_CheapestBlend.f
        rw [h2 k hk, h3]
        simp only [Option.bind_some]
        rw [if_pos h.1, if_pos h.2, if_pos (by omega), hf]
        rfl
    | some q =>
      obtain ⟨q1, q2⟩ := hok q rfl
      obtain ⟨m1, m2⟩ := partsAll_mem l u (by omega) q.1 q1
      obtain ⟨K7, h7⟩ := blSums_ev l q.1 hl m1 m2
      have hs := hsum q.1 q1
      have he : wrap64 (-q.2) = (sumsTo l q.1 q.1.length).2.2.2 := by rw [q2, hsc q.1 q1, Int.neg_neg, w64 (by omega) (by omega)]
      refine ⟨(q.1, (sumsTo l q.1 q.1.length).2.2.2, true), ⟨K1 + K4 + K7, fun k hk => ?_⟩, ⟨K2, fun k hk => ?_⟩, by simp only; omega, fun _ => ⟨h0, q1, (hbt.2.2 q rfl).elim (fun e => by cases e) (fun e => e.2), rfl⟩, fun _ m hm hmm => ⟨rfl, by
        obtain ⟨q', e, e2⟩ := hbt.2.1 m hm hmm
        obtain rfl := Option.some.inj e
        have a1 := hsc m hm
        have a2 := hsc q.1 q1
        simp only
        omega⟩⟩
      · unfold spec_CheapestBlend.f
        rw [h1 k (by omega)]
        simp only [Option.bind_some]
        rw [if_pos trivial, h4 k (by omega)]
        simp only [Option.bind_some]
        rw [if_pos (show (spRes (some q)).2 = true from rfl), show (spRes (some q)).1 = q.1 from rfl, h7 k (by omega)]
        simp only [Option.bind_some]
        rw [if_pos (by simp [sumL])]
        rfl
      · unfold impl_CheapestBlend.f
        rw [h2 k hk, h3]
        simp only [Option.bind_some]
        rw [if_pos h.1, if_pos h.2, if_pos (by omega), hf]
        simp only [Option.bind_some]
        rw [he]
  · refine ⟨([], 0, false), ⟨K1, fun k hk => ?_⟩, ⟨K2, fun k hk => ?_⟩, by simp, (fun h' => by cases h'), fun h' => absurd h' h⟩
    · unfold spec_CheapestBlend.f
      rw [h1 k hk]
      simp only [Option.bind_some]
      rw [if_neg h]
    · unfold impl_CheapestBlend.f
      rw [h2 k hk, h3]
      simp only [Option.bind_some]
      by_cases hb : binsOk l = true
      · rw [if_pos hb, if_neg (fun hw => h (by rw [hb, hw]; rfl))]
      · rw [if_neg hb]

/-! The draws: every byte string gives some numbers. -/
def bytes (l : List Int) : Prop := ∀ x ∈ l, 0 ≤ x ∧ x ≤ 255
theorem bytes_of {l : List Int} (h : ∀ x ∈ l, (Lit.int .u8 x).wf = true) : bytes l := by
  exact fun x hx => bounds_u8 (h x hx)
theorem and255 (a : Int) : 0 ≤ Go.bits .and .u64 (IntKind.u64.wrap a / 1099511627776) 255 ∧ Go.bits .and .u64 (IntKind.u64.wrap a / 1099511627776) 255 ≤ 255 := by
  have hw : 0 ≤ IntKind.u64.wrap a ∧ IntKind.u64.wrap a ≤ 18446744073709551615 := bounds_u64 (wf_wrap .u64 a)
  obtain ⟨n, hn⟩ : ∃ n : Nat, IntKind.u64.wrap a / 1099511627776 = (n : Int) := ⟨(IntKind.u64.wrap a / 1099511627776).toNat, by omega⟩
  rw [hn, show (255 : Int) = ((255 : Nat) : Int) from rfl, bits_and_u64_nat n 255 (by omega) (by omega)]
  have := Nat.and_le_right (n := n) (m := 255)
  omega
theorem next_ok {l : List Int} (hl : bytes l) (hn : l.length ≤ maxLen) {p : Int} (s : Int) (h0 : 0 ≤ p) (h1 : p ≤ 4000000000000000000) : ∃ b s', spec_l1Cur_next.f l p s = some (b, p + 1, s') ∧ 0 ≤ b ∧ b ≤ 255 := by
  unfold maxLen at hn
  unfold spec_l1Cur_next.f
  rw [w64 (x := p + 1) (by omega) (by omega)]
  have ha : ∀ a : Int, 0 ≤ wrap64 (Go.bits .and .u64 (IntKind.u64.wrap a / 1099511627776) 255) ∧ wrap64 (Go.bits .and .u64 (IntKind.u64.wrap a / 1099511627776) 255) ≤ 255 := by
    intro a
    have := and255 a
    rw [w64 (by omega) (by omega)]
    exact this
  by_cases c : p < (l.length : Int)
  · obtain ⟨q, rfl⟩ : ∃ q : Nat, p = (q : Int) := ⟨p.toNat, by omega⟩
    have hb := hl _ (List.getElem_mem (by omega : q < l.length))
    rw [if_pos c, if_pos h0, rd_nat l q (by omega)]
    have e : wrap64 l[q] = l[q] := w64 (by omega) (by omega)
    split
    · exact ⟨_, _, rfl, by rw [e]; exact hb.1, by rw [e]; exact hb.2⟩
    · exact ⟨_, _, rfl, (ha _).1, (ha _).2⟩
  · rw [if_neg c]
    split
    · exact ⟨_, _, rfl, by omega, by omega⟩
    · exact ⟨_, _, rfl, (ha _).1, (ha _).2⟩
theorem pick_ok {l : List Int} (hl : bytes l) (hn : l.length ≤ maxLen) {p : Int} (s n : Int) (h0 : 0 ≤ p) (h1 : p ≤ 4000000000000000000 - 2) : ∃ x p' s', spec_l1Cur_pick.f l p s n = some (x, p', s') ∧ 0 ≤ x ∧ (x < n ∨ x = 0) ∧ x ≤ 65535 ∧ p ≤ p' ∧ p' ≤ p + 2 := by
  unfold spec_l1Cur_pick.f
  by_cases c : n ≤ 1
  · rw [if_pos c]
    exact ⟨_, _, _, rfl, by omega, .inr rfl, by omega, by omega, by omega⟩
  · rw [if_neg c]
    obtain ⟨b, s1, e1, b0, b1⟩ := next_ok hl hn s h0 (by omega)
    rw [e1]
    simp only [Option.bind_some]
    by_cases c2 : n > 200
    · obtain ⟨b', s2, e2, b2, b3⟩ := next_ok hl hn s1 (p := p + 1) (by omega) (by omega)
      rw [if_pos c2, e2]
      simp only [Option.bind_some]
      rw [if_neg (by omega), w64 (x := b * 256) (by omega) (by omega), w64 (by omega) (by omega), Int.tmod_eq_emod_of_nonneg (by omega)]
      have := Int.emod_nonneg (b * 256 + b') (b := n) (by omega)
      have := Int.emod_lt_of_pos (b * 256 + b') (b := n) (by omega)
      have := Int.mul_ediv_add_emod (b * 256 + b') n
      have := Int.mul_nonneg (a := n) (b := (b * 256 + b') / n) (by omega) (Int.ediv_nonneg (by omega) (by omega))
      exact ⟨_, _, _, rfl, by omega, .inl (by omega), by omega, by omega, by omega⟩
    · rw [if_neg c2, if_neg (by omega), Int.tmod_eq_emod_of_nonneg (by omega)]
      have := Int.emod_nonneg b (b := n) (by omega)
      have := Int.emod_lt_of_pos b (b := n) (by omega)
      exact ⟨_, _, _, rfl, by omega, .inl (by omega), by omega, by omega, by omega⟩
theorem among_ok {l : List Int} (hl : bytes l) (hn : l.length ≤ maxLen) {p : Int} (s : Int) (xs : List Int) (hx : xs ≠ []) (h0 : 0 ≤ p) (h1 : p ≤ 4000000000000000000 - 2) : ∃ x p' s', spec_l1Cur_among.f l p s xs = some (x, p', s') ∧ x ∈ xs ∧ p ≤ p' ∧ p' ≤ p + 2 := by
  unfold spec_l1Cur_among.f
  obtain ⟨x, p', s', e, x0, x1, _, p0, p1⟩ := pick_ok hl hn s (xs.length : Int) h0 h1
  have hp := List.length_pos_iff.2 hx
  obtain ⟨q, rfl⟩ : ∃ q : Nat, x = (q : Int) := ⟨x.toNat, by omega⟩
  rw [e]
  simp only [Option.bind_some]
  rw [if_pos x0, if_pos (by omega), rd_nat xs q (by omega)]
  exact ⟨_, _, _, rfl, List.getElem_mem _, p0, p1⟩

/-- Parts that fit their bins, one by one. -/
def FitR : List S63 → List Int → Prop
  | [], [] => True
  | b :: l, x :: p => (0 ≤ x ∧ x ≤ b.f0) ∧ FitR l p
  | _, _ => False
theorem fitR_iff : ∀ (l : List S63) (p : List Int), FitR l p ↔ p.length = l.length ∧ ∀ j, j < l.length → 0 ≤ rd p (j : Int) ∧ rd p (j : Int) ≤ (rd_T63 l (j : Int)).f0 := by
  intro l
  induction l with
  | nil =>
    intro p
    cases p with
    | nil => simp [FitR]
    | cons x p => simp [FitR]
  | cons b l ih =>
    intro p
    cases p with
    | nil => simp [FitR]
    | cons x p =>
      have hs : ∀ j : Nat, rd (x :: p) ((j + 1 : Nat) : Int) = rd p (j : Int) ∧ rd_T63 (b :: l) ((j + 1 : Nat) : Int) = rd_T63 l (j : Int) := fun j => by
        constructor
        · unfold rd; rw [Int.toNat_natCast, Int.toNat_natCast, List.getD_cons_succ]
        · unfold rd_T63; rw [Int.toNat_natCast, Int.toNat_natCast, List.getD_cons_succ]
      have h0 : rd (x :: p) ((0 : Nat) : Int) = x ∧ rd_T63 (b :: l) ((0 : Nat) : Int) = b := ⟨rfl, rfl⟩
      simp only [FitR, List.length_cons]
      rw [ih p]
      constructor
      · intro ⟨h1, h2, h3⟩
        refine ⟨by omega, fun j hj => ?_⟩
        cases j with
        | zero => rw [h0.1, h0.2]; exact h1
        | succ j => rw [(hs j).1, (hs j).2]; exact h3 j (by omega)
      · intro ⟨h1, h2⟩
        refine ⟨?_, by omega, fun j hj => ?_⟩
        · have := h2 0 (by omega)
          rw [h0.1, h0.2] at this
          exact this
        · have := h2 (j + 1) (by omega)
          rw [(hs j).1, (hs j).2] at this
          exact this
theorem fitFrom_iff (l : List S63) (p : List Int) : fitFrom l p 0 = true ↔ ∀ j, j < l.length → 0 ≤ rd p (j : Int) ∧ rd p (j : Int) ≤ (rd_T63 l (j : Int)).f0 := by
  unfold fitFrom
  simp only [List.all_eq_true, List.mem_map, List.mem_range, Nat.sub_zero, Nat.add_zero, fitAt, inr_iff]
  exact ⟨fun h j hj => h j ⟨j, hj, rfl⟩, fun h j ⟨a, ha, e⟩ => by rw [← e]; exact h a ha⟩
theorem partsOk_iff (l : List S63) (p : List Int) : partsOk l p = true ↔ binsOk l = true ∧ FitR l p := by
  unfold partsOk
  rw [fitR_iff, Bool.and_eq_true, Bool.and_eq_true, fitFrom_iff, decide_eq_true_eq]
theorem mn_ge (a b c : Int) (h1 : c ≤ a) (h2 : c ≤ b) : c ≤ mn a b := by unfold mn; split <;> omega
theorem fit_sum_nonneg : ∀ (l : List S63) (p : List Int), FitR l p → 0 ≤ p.sum := by
  intro l
  induction l with
  | nil => intro p h; cases p with | nil => simp | cons x p => exact h.elim
  | cons b l ih =>
    intro p h
    cases p with
    | nil => exact h.elim
    | cons x p => have := ih p h.2; rw [List.sum_cons]; have := h.1; omega
/-- All parts of the list fit and come to the sum; and all that do are there. -/
theorem partsAll_fit : ∀ (l : List S63) (left : Int) (m : List Int), m ∈ partsAll l left → FitR l m ∧ m.sum = left := by
  intro l
  induction l with
  | nil =>
    intro left m hm
    simp only [partsAll] at hm
    by_cases h : left = 0
    · rw [if_pos h, List.mem_singleton] at hm
      subst hm
      exact ⟨trivial, by simp [h]⟩
    · rw [if_neg h] at hm; cases hm
  | cons b l ih =>
    intro left m hm
    simp only [partsAll] at hm
    obtain ⟨n, hn, hm⟩ := List.mem_flatMap.1 hm
    obtain ⟨r, hr, rfl⟩ := List.mem_map.1 hm
    have hn2 := List.mem_range'_1.1 hn
    obtain ⟨h1, h2⟩ := ih _ r hr
    have h3 : mn left b.f0 ≤ b.f0 := by unfold mn; split <;> omega
    refine ⟨⟨⟨by omega, by omega⟩, h1⟩, by rw [List.sum_cons]; omega⟩
theorem partsAll_has : ∀ (l : List S63) (m : List Int), FitR l m → m ∈ partsAll l m.sum := by
  intro l
  induction l with
  | nil => intro m h; cases m with | nil => simp [partsAll] | cons x p => exact h.elim
  | cons b l ih =>
    intro m h
    cases m with
    | nil => exact h.elim
    | cons x p =>
      have h1 := fit_sum_nonneg l p h.2
      have h2 := ih p h.2
      have hx := h.1
      have h3 := mn_ge (x + p.sum) b.f0 x (by omega) hx.2
      simp only [partsAll, List.sum_cons]
      refine List.mem_flatMap.2 ⟨x.toNat, List.mem_range'_1.2 (by omega), List.mem_map.2 ⟨p, ?_, by congr 1; omega⟩⟩
      rw [show x + p.sum - (x.toNat : Int) = p.sum by omega]
      exact h2
theorem sums_units (l : List S63) (p : List Int) (hl : p.length ≤ 6) (hx : ∀ x ∈ p, 0 ≤ x ∧ x ≤ 12) : ∀ i, i ≤ p.length → (sumsTo l p i).1 = (p.take i).sum ∧ 0 ≤ (p.take i).sum ∧ (p.take i).sum ≤ 12 * (i : Int) := by
  intro i
  induction i with
  | zero => intro _; simp [sumsTo]
  | succ i ih =>
    intro hi
    obtain ⟨h1, h2, h3⟩ := ih (by omega)
    have hlt : i < p.length := by omega
    have := hx _ (List.getElem_mem hlt)
    rw [List.take_succ_eq_append_getElem hlt, List.sum_append, List.sum_cons, List.sum_nil]
    simp only [sumsTo]
    rw [rd_nat p i hlt, h1, w64 (by omega) (by omega)]
    omega
theorem parts_small {l : List S63} {p : List Int} (h : partsOk l p = true) : p.length = l.length ∧ l.length ≤ 6 ∧ ∀ x ∈ p, 0 ≤ x ∧ x ≤ 12 := by
  obtain ⟨h1, h2⟩ := (partsOk_iff l p).1 h
  obtain ⟨g1, g2, g3⟩ := (binsOk_iff l).1 h1
  obtain ⟨f1, f2⟩ := (fitR_iff l p).1 h2
  refine ⟨f1, g3, fun x hx => ?_⟩
  obtain ⟨i, hi, rfl⟩ := List.mem_iff_getElem.1 hx
  have := f2 i (by omega)
  rw [rd_nat p i hi, rdB_nat l i (by omega)] at this
  have hb := (binOk_iff _).1 (g1 _ (List.getElem_mem (show i < l.length by omega)))
  omega
theorem parts_in {l : List S63} {p : List Int} {u le mo im : Int} (h : partsOk l p = true) (hm : meetsB (sumsTo l p p.length) u le mo im = true) : p ∈ partsAll l u := by
  obtain ⟨h1, h2, h3⟩ := parts_small h
  obtain ⟨g1, g2⟩ := (partsOk_iff l p).1 h
  have := (sums_units l p (by omega) h3 p.length (Nat.le_refl _)).1
  rw [List.take_length] at this
  have hu : (sumsTo l p p.length).1 = u := by
    unfold meetsB at hm
    rw [Bool.and_eq_true] at hm
    simpa using hm.1
  rw [← hu, this]
  exact partsAll_has l p g2
theorem parts_of {l : List S63} {m : List Int} {u : Int} (hb : binsOk l = true) (hm : m ∈ partsAll l u) : partsOk l m = true := (partsOk_iff l m).2 ⟨hb, (partsAll_fit l u m hm).1⟩
theorem meets_both (l : List S63) (u le mo im : Int) (p : List Int) (hl : l.length ≤ 1048576) (hp : p.length ≤ 1048576) : ∃ r : Bool × Bool, (∃ K, ∀ k, K ≤ k → impl_MeetsWanted.f k l u le mo im p = some r) ∧ (∃ K, ∀ k, K ≤ k → spec_MeetsWanted.f k l u le mo im p = some r) ∧ (wantOk u le mo im = true → partsOk l p = true → r = (meetsB (sumsTo l p p.length) u le mo im, true)) ∧ (r.2 = true → wantOk u le mo im = true ∧ partsOk l p = true) := by
  obtain ⟨K1, h1⟩ := areBins_ev l hl
  have h2 := isWanted_eq u le mo im
  have h2' := blWanted_eq u le mo im
  obtain ⟨K3, h3⟩ := areParts_ev l p hl hp
  obtain ⟨K4, h4⟩ := blParts_ev l p hl hp
  by_cases hw : wantOk u le mo im = true
  · by_cases hk : partsOk l p = true
    · obtain ⟨g1, g2, g3⟩ := parts_small hk
      obtain ⟨K5, h5⟩ := blSums_ev l p hl g1 g3
      have hk2 := hk
      unfold partsOk at hk2
      rw [Bool.and_eq_true] at hk2
      refine ⟨(meetsB (sumsTo l p p.length) u le mo im, true), ⟨K1 + K3, fun k hk' => ?_⟩, ⟨K4 + K5 + 1, fun k hk' => ?_⟩, fun _ _ => rfl, fun _ => ⟨hw, hk⟩⟩
      · unfold impl_MeetsWanted.f
        rw [h1 k (by omega)]
        simp only [Option.bind_some]
        rw [if_pos hk2.1, h2]
        simp only [Option.bind_some]
        rw [if_pos hw, h3 k (by omega)]
        simp only [Option.bind_some]
        rw [if_pos hk2.2]
        unfold impl_meetsWanted.f
        rw [if_pos (by omega)]
        rfl
      · unfold spec_MeetsWanted.f
        obtain ⟨j, rfl⟩ : ∃ j, k = j + 1 := ⟨k - 1, by omega⟩
        rw [h2']
        simp only [Option.bind_some]
        rw [if_pos hw, h4 (j + 1) (by omega)]
        simp only [Option.bind_some]
        simp only [spec_MeetsWanted.j0, hk, Bool.not_true, Bool.false_eq_true, if_false]
        rw [h5 j (by omega)]
        simp only [Option.bind_some]
        rw [blMeets_eq]
        rfl
    · refine ⟨(false, false), ⟨K1 + K3, fun k hk' => ?_⟩, ⟨K4 + 1, fun k hk' => ?_⟩, fun _ h => absurd h hk, fun h => by cases h⟩
      · unfold impl_MeetsWanted.f
        rw [h1 k (by omega)]
        simp only [Option.bind_some]
        by_cases hb : binsOk l = true
        · rw [if_pos hb, h2]
          simp only [Option.bind_some]
          rw [if_pos hw, h3 k (by omega)]
          simp only [Option.bind_some]
          rw [if_neg (fun h => hk (by unfold partsOk; rw [hb, h]; rfl))]
        · rw [if_neg hb]
      · unfold spec_MeetsWanted.f
        obtain ⟨j, rfl⟩ : ∃ j, k = j + 1 := ⟨k - 1, by omega⟩
        rw [h2']
        simp only [Option.bind_some]
        rw [if_pos hw, h4 (j + 1) (by omega)]
        simp only [Option.bind_some]
        simp only [spec_MeetsWanted.j0, Bool.eq_false_iff.mpr hk, Bool.not_false, if_true]
  · refine ⟨(false, false), ⟨K1 + K3, fun k hk' => ?_⟩, ⟨K4 + 1, fun k hk' => ?_⟩, fun h => absurd h hw, fun h => by cases h⟩
    · unfold impl_MeetsWanted.f
      rw [h1 k (by omega)]
      simp only [Option.bind_some]
      by_cases hb : binsOk l = true
      · rw [if_pos hb, h2]
        simp only [Option.bind_some]
        rw [if_neg hw]
      · rw [if_neg hb]
    · unfold spec_MeetsWanted.f
      obtain ⟨j, rfl⟩ : ∃ j, k = j + 1 := ⟨k - 1, by omega⟩
      rw [h2']
      simp only [Option.bind_some]
      rw [if_neg hw]
      simp only [spec_MeetsWanted.j0, if_true]
theorem blendSums_ev (l : List S63) (p : List Int) (hl : l.length ≤ 1048576) (hp : p.length ≤ 1048576) (hk : partsOk l p = true) : ∃ K, ∀ k, K ≤ k → impl_BlendSums.f k l p = some ((sumsTo l p p.length).1, (sumsTo l p p.length).2.1, (sumsTo l p p.length).2.2.1, (sumsTo l p p.length).2.2.2, true) := by
  obtain ⟨K1, h1⟩ := areBins_ev l hl
  obtain ⟨K3, h3⟩ := areParts_ev l p hl hp
  obtain ⟨g1, g2, g3⟩ := parts_small hk
  have hk2 := hk
  unfold partsOk at hk2
  rw [Bool.and_eq_true] at hk2
  refine ⟨K1 + K3, fun k hk' => ?_⟩
  unfold impl_BlendSums.f
  rw [h1 k (by omega)]
  simp only [Option.bind_some]
  rw [if_pos hk2.1, h3 k (by omega)]
  simp only [Option.bind_some]
  rw [if_pos hk2.2, if_pos (by omega)]
theorem one_ok {l : List Int} (hl : bytes l) (hn : l.length ≤ maxLen) {p : Int} (s n : Int) (h0 : 0 ≤ p) (h1 : p ≤ 3000000000000000000) : ∃ x p' s', spec_l1Cur_one.f l p s n = some (x, p', s') ∧ p ≤ p' ∧ p' ≤ p + 2 := by
  unfold spec_l1Cur_one.f
  obtain ⟨x, p', s', e, _, _, _, q, r⟩ := pick_ok hl hn s n h0 (by omega)
  rw [e]; exact ⟨_, _, _, rfl, q, r⟩
theorem bins_l0 {l : List Int} (hl : bytes l) (hn : l.length ≤ maxLen) {n : Nat} (hnn : n ≤ 7) : ∀ (d i : Nat) (x : List S63) (p s : Int), i + d = n → x.length = i → 0 ≤ p → p ≤ 1000 + 100 * (i : Int) → ∃ r : List S63 × Int × Int, (r.1.length ≤ 7 ∧ 0 ≤ r.2.1 ∧ r.2.1 ≤ 3000) ∧ ∃ K, ∀ k, K ≤ k → spec_l1Cur_bins.l0 k x (n : Int) l p s = some r := by
  intro d
  induction d with
  | zero =>
    intro i x p s hi hx h0 h1
    by_cases hz : 0 < x.length
    · obtain ⟨b, p1, s1, e1, a1, b1, _, q1, r1⟩ := pick_ok hl hn s (x.length : Int) h0 (by omega)
      obtain ⟨c, p2, s2, e2, a2, b2, _, q2, r2⟩ := pick_ok hl hn s1 24 (p := p1) (by omega) (by omega)
      obtain ⟨v, p3, s3, e3, _, q3, r3⟩ := among_ok hl hn s2 [(-1), 12, 13] (by simp) (p := p2) (by omega) (by omega)
      obtain ⟨v', p4, s4, e4, _, q4, r4⟩ := among_ok hl hn s2 [(-1), 1000, 1001] (by simp) (p := p2) (by omega) (by omega)
      have hun : ∀ k, spec_l1Cur_bins.l0 (k + 1) x (n : Int) l p s = some (if c = 0 then (x.set b.toNat ⟨v, (rd_T63 x b).f1, (rd_T63 x b).f2, (rd_T63 x b).f3⟩, p3, s3) else if c = 1 then (x.set b.toNat ⟨(rd_T63 x b).f0, v', (rd_T63 x b).f2, (rd_T63 x b).f3⟩, p4, s4) else if c = 2 then (x.set b.toNat ⟨(rd_T63 x b).f0, (rd_T63 x b).f1, v', (rd_T63 x b).f3⟩, p4, s4) else if c = 3 then (x.set b.toNat ⟨(rd_T63 x b).f0, (rd_T63 x b).f1, (rd_T63 x b).f2, v'⟩, p4, s4) else (x, p2, s2)) := by
        intro k
        simp only [spec_l1Cur_bins.l0]
        rw [if_neg (by omega), if_pos (by omega), e1]
        simp only [Option.bind_some]
        rw [if_pos (by omega), if_pos (by omega), e2]
        simp only [Option.bind_some]
        by_cases c0 : c = 0
        · rw [if_pos c0, if_pos c0, e3]; rfl
        · rw [if_neg c0, if_neg c0]
          by_cases c1 : c = 1
          · rw [if_pos c1, if_pos c1, e4]; rfl
          · rw [if_neg c1, if_neg c1]
            by_cases c2 : c = 2
            · rw [if_pos c2, if_pos c2, e4]; rfl
            · rw [if_neg c2, if_neg c2]
              by_cases c3 : c = 3
              · rw [if_pos c3, if_pos c3, e4]; rfl
              · rw [if_neg c3, if_neg c3]
      refine ⟨_, ?_, ev_suc 0 fun k _ => hun k⟩
      have T : ∀ (z : List S63) (a b : Int), z.length ≤ 7 → 0 ≤ a → a ≤ 3000 → (z, a, b).1.length ≤ 7 ∧ 0 ≤ (z, a, b).2.1 ∧ (z, a, b).2.1 ≤ 3000 := fun z a b h1 h2 h3 => ⟨h1, h2, h3⟩
      by_cases c0 : c = 0
      · rw [if_pos c0]; exact T _ _ _ (by rw [List.length_set]; omega) (by omega) (by omega)
      · rw [if_neg c0]
        by_cases c1 : c = 1
        · rw [if_pos c1]; exact T _ _ _ (by rw [List.length_set]; omega) (by omega) (by omega)
        · rw [if_neg c1]
          by_cases c2 : c = 2
          · rw [if_pos c2]; exact T _ _ _ (by rw [List.length_set]; omega) (by omega) (by omega)
          · rw [if_neg c2]
            by_cases c3 : c = 3
            · rw [if_pos c3]; exact T _ _ _ (by rw [List.length_set]; omega) (by omega) (by omega)
            · rw [if_neg c3]; exact T _ _ _ (by omega) (by omega) (by omega)
    · refine ⟨(x, p, s), ⟨by simp only; omega, by simp only; omega, by simp only; omega⟩, ev_suc 0 fun k _ => ?_⟩
      simp only [spec_l1Cur_bins.l0]
      rw [if_neg (by omega), if_neg (by omega)]
  | succ d ih =>
    intro i x p s hi hx h0 h1
    obtain ⟨y1, p1, s1, e1, _, _, _, q1, r1⟩ := pick_ok hl hn s 7 h0 (by omega)
    obtain ⟨y2, p2, s2, e2, _, _, _, q2, r2⟩ := pick_ok hl hn s1 900 (p := p1) (by omega) (by omega)
    obtain ⟨y3, p3, s3, e3, _, q3, r3⟩ := among_ok hl hn s2 [0, 10, 40, 100, y2] (by simp) (p := p2) (by omega) (by omega)
    obtain ⟨y4, p4, s4, e4, _, _, _, q4, r4⟩ := pick_ok hl hn s3 300 (p := p3) (by omega) (by omega)
    obtain ⟨y5, p5, s5, e5, _, q5, r5⟩ := among_ok hl hn s4 [0, 5, 20, y4] (by simp) (p := p4) (by omega) (by omega)
    obtain ⟨y6, p6, s6, e6, _, q6, r6⟩ := among_ok hl hn s5 [0, 1, 3, 10, 10] (by simp) (p := p5) (by omega) (by omega)
    obtain ⟨r, hR, K, h⟩ := ih (i + 1) (x ++ [⟨y1, y3, y5, y6⟩]) p6 s6 (by omega) (by simp; omega) (by omega) (by omega)
    refine ⟨r, hR, ev_suc K fun k hk => ?_⟩
    simp only [spec_l1Cur_bins.l0]
    rw [if_pos (by omega), e1]
    simp only [Option.bind_some]
    rw [e2]
    simp only [Option.bind_some]
    rw [e3]
    simp only [Option.bind_some]
    rw [e4]
    simp only [Option.bind_some]
    rw [e5]
    simp only [Option.bind_some]
    rw [e6]
    simp only [Option.bind_some]
    rw [if_pos (by omega)]
    exact h k hk
theorem bins_ok {l : List Int} (hl : bytes l) (hn : l.length ≤ maxLen) (s : Int) : ∃ x p' s', (∃ K, ∀ k, K ≤ k → spec_l1Cur_bins.f k l 0 s = some (x, p', s')) ∧ x.length ≤ 7 ∧ 0 ≤ p' ∧ p' ≤ 3000 := by
  obtain ⟨b, p1, s1, e1, a1, b1, _, q1, r1⟩ := pick_ok hl hn s 4 (p := 0) (by omega) (by omega)
  obtain ⟨o, p2, s2, e2, q2, r2⟩ := one_ok hl hn s1 16 (p := p1) (by omega) (by omega)
  obtain ⟨v, p3, s3, e3, hv, q3, r3⟩ := among_ok hl hn s2 [0, 6, 7] (by simp) (p := p2) (by omega) (by omega)
  have hv2 : 0 ≤ v ∧ v ≤ 7 := by simp at hv; omega
  have hw : wrap64 (1 + b) = 1 + b := w64 (by omega) (by omega)
  cases o with
  | true =>
    obtain ⟨n, rfl⟩ : ∃ n : Nat, v = (n : Int) := ⟨v.toNat, by omega⟩
    obtain ⟨r, ⟨R1, R2, R3⟩, K, h⟩ := bins_l0 hl hn (n := n) (by omega) n 0 [] p3 s3 (by omega) rfl (by omega) (by omega)
    refine ⟨r.1, r.2.1, r.2.2, ⟨K + 1, fun k hk => ?_⟩, R1, R2, R3⟩
    obtain ⟨j, rfl⟩ : ∃ j, k = j + 1 := ⟨k - 1, by omega⟩
    unfold spec_l1Cur_bins.f
    rw [e1]
    simp only [Option.bind_some]
    rw [e2]
    simp only [Option.bind_some]
    rw [if_pos trivial, e3]
    simp only [Option.bind_some, spec_l1Cur_bins.j0]
    exact h j (by omega)
  | false =>
    obtain ⟨n, hn2⟩ : ∃ n : Nat, 1 + b = (n : Int) := ⟨(1 + b).toNat, by omega⟩
    obtain ⟨r, ⟨R1, R2, R3⟩, K, h⟩ := bins_l0 hl hn (n := n) (by omega) n 0 [] p2 s2 (by omega) rfl (by omega) (by omega)
    refine ⟨r.1, r.2.1, r.2.2, ⟨K + 1, fun k hk => ?_⟩, R1, R2, R3⟩
    obtain ⟨j, rfl⟩ : ∃ j, k = j + 1 := ⟨k - 1, by omega⟩
    unfold spec_l1Cur_bins.f
    rw [e1]
    simp only [Option.bind_some]
    rw [e2]
    simp only [Option.bind_some]
    rw [if_neg (by simp), hw, hn2]
    simp only [spec_l1Cur_bins.j0]
    exact h j (by omega)
theorem wanted_ok {l : List Int} (hl : bytes l) (hn : l.length ≤ maxLen) {p : Int} (s : Int) (h0 : 0 ≤ p) (h1 : p ≤ 1000000) : ∃ u le mo im p' s', spec_l1Cur_wanted.f l p s = some (u, le, mo, im, p', s') ∧ p ≤ p' ∧ p' ≤ p + 100 := by
  unfold spec_l1Cur_wanted.f
  obtain ⟨y1, p1, s1, e1, _, _, _, q1, r1⟩ := pick_ok hl hn s 7 h0 (by omega)
  obtain ⟨y2, p2, s2, e2, _, q2, r2⟩ := among_ok hl hn s1 [0, 0, 10, 30, 100] (by simp) (p := p1) (by omega) (by omega)
  obtain ⟨y3, p3, s3, e3, _, q3, r3⟩ := among_ok hl hn s2 [0, 10, 50, 300, 1000] (by simp) (p := p2) (by omega) (by omega)
  obtain ⟨y4, p4, s4, e4, _, q4, r4⟩ := among_ok hl hn s3 [0, 20, 100, 900] (by simp) (p := p3) (by omega) (by omega)
  obtain ⟨y5, p5, s5, e5, _, _, _, q5, r5⟩ := pick_ok hl hn s4 24 (p := p4) (by omega) (by omega)
  obtain ⟨z1, p6, s6, e6, _, q6, r6⟩ := among_ok hl hn s5 [0, 12, 13] (by simp) (p := p5) (by omega) (by omega)
  obtain ⟨z2, p7, s7, e7, _, q7, r7⟩ := among_ok hl hn s5 [wrap64 (y2 - 1), 1000, 1001] (by simp) (p := p5) (by omega) (by omega)
  obtain ⟨z3, p8, s8, e8, _, q8, r8⟩ := among_ok hl hn s5 [(-1), 1001] (by simp) (p := p5) (by omega) (by omega)
  rw [e1]
  simp only [Option.bind_some]
  rw [e2]
  simp only [Option.bind_some]
  rw [e3]
  simp only [Option.bind_some]
  rw [e4]
  simp only [Option.bind_some]
  rw [e5]
  simp only [Option.bind_some]
  by_cases c0 : y5 = 0
  · rw [if_pos c0, e6]; simp only [Option.bind_some]; exact ⟨_, _, _, _, _, _, rfl, by omega, by omega⟩
  · rw [if_neg c0]
    by_cases c1 : y5 = 1
    · rw [if_pos c1, e7]; simp only [Option.bind_some]; exact ⟨_, _, _, _, _, _, rfl, by omega, by omega⟩
    · rw [if_neg c1]
      by_cases c2 : y5 = 2
      · rw [if_pos c2, e8]; simp only [Option.bind_some]; exact ⟨_, _, _, _, _, _, rfl, by omega, by omega⟩
      · rw [if_neg c2]; exact ⟨_, _, _, _, _, _, rfl, by omega, by omega⟩
theorem partsOf_l0 {l : List Int} (hl : bytes l) (hn : l.length ≤ maxLen) (b : List S63) (hb : b.length ≤ 7) (P0 : Int) (hP0 : 0 ≤ P0) (hP1 : P0 ≤ 1000000) : ∀ (d i : Nat) (x : List Int) (p s : Int), i + d = b.length → x.length = i → 0 ≤ p → p ≤ P0 + 10 * (i : Int) → ∃ r : List Int × Int × Int, (r.1.length ≤ 8 ∧ 0 ≤ r.2.1 ∧ r.2.1 ≤ P0 + 1000) ∧ ∃ K, ∀ k, K ≤ k → spec_l1Cur_partsOf.l0 k b x b (b.length : Int) (i : Int) l p s = some r := by
  intro d
  induction d with
  | zero =>
    intro i x p s hi hx h0 h1
    by_cases hz : 0 < x.length
    · obtain ⟨c, p2, s2, e2, _, _, _, q2, r2⟩ := pick_ok hl hn s 24 h0 (by omega)
      obtain ⟨v, p3, s3, e3, _, q3, r3⟩ := among_ok hl hn s2 [(-1), (rd_T63 b 0).f0, wrap64 (((rd_T63 b 0).f0) + 1)] (by simp) (p := p2) (by omega) (by omega)
      have T : ∀ (z : List Int) (a b : Int), z.length ≤ 8 → 0 ≤ a → a ≤ P0 + 1000 → (z, a, b).1.length ≤ 8 ∧ 0 ≤ (z, a, b).2.1 ∧ (z, a, b).2.1 ≤ P0 + 1000 := fun z a b h1 h2 h3 => ⟨h1, h2, h3⟩
      by_cases c0 : c = 0
      · refine ⟨(x.set (0 : Int).toNat v, p3, s3), T _ _ _ (by rw [List.length_set]; omega) (by omega) (by omega), ev_suc 0 fun k _ => ?_⟩
        simp only [spec_l1Cur_partsOf.l0]
        rw [if_neg (by omega), if_pos (by omega), e2]
        simp only [Option.bind_some]
        rw [if_pos c0, if_pos (by omega), e3]
        simp only [Option.bind_some]
        rw [if_pos (by omega)]
      · by_cases c1 : c = 1
        · refine ⟨(x ++ [0], p2, s2), T _ _ _ (by rw [List.length_append, List.length_singleton]; omega) (by omega) (by omega), ev_suc 0 fun k _ => ?_⟩
          simp only [spec_l1Cur_partsOf.l0]
          rw [if_neg (by omega), if_pos (by omega), e2]
          simp only [Option.bind_some]
          rw [if_neg c0, if_pos c1, if_pos (by omega)]
        · refine ⟨(x, p2, s2), T _ _ _ (by omega) (by omega) (by omega), ev_suc 0 fun k _ => ?_⟩
          simp only [spec_l1Cur_partsOf.l0]
          rw [if_neg (by omega), if_pos (by omega), e2]
          simp only [Option.bind_some]
          rw [if_neg c0, if_neg c1]
    · refine ⟨(x, p, s), ⟨by simp only; omega, by simp only; omega, by simp only; omega⟩, ev_suc 0 fun k _ => ?_⟩
      simp only [spec_l1Cur_partsOf.l0]
      rw [if_neg (by omega), if_neg (by omega)]
  | succ d ih =>
    intro i x p s hi hx h0 h1
    obtain ⟨t, et⟩ : ∃ t, spec_l1Most.f 0 ((rd_T63 b (i : Int)).f0) = some t := by
      unfold spec_l1Most.f
      split
      · exact ⟨_, rfl⟩
      · exact ⟨_, rfl⟩
    obtain ⟨y1, p1, s1, e1, _, _, _, q1, r1⟩ := pick_ok hl hn s (wrap64 (t + 1)) h0 (by omega)
    obtain ⟨r, hR, K, h⟩ := ih (i + 1) (x ++ [y1]) p1 s1 (by omega) (by simp; omega) (by omega) (by omega)
    refine ⟨r, hR, ev_suc K fun k hk => ?_⟩
    simp only [spec_l1Cur_partsOf.l0]
    rw [if_pos (by omega), if_pos (by omega), if_pos (by omega), et]
    simp only [Option.bind_some]
    rw [e1]
    simp only [Option.bind_some]
    rw [if_pos (by omega), w64s (by omega)]
    exact h k hk
theorem partsOf_ok {l : List Int} (hl : bytes l) (hn : l.length ≤ maxLen) {p : Int} (s : Int) (b : List S63) (hb : b.length ≤ 7) (h0 : 0 ≤ p) (h1 : p ≤ 1000000) : ∃ x p' s', (∃ K, ∀ k, K ≤ k → spec_l1Cur_partsOf.f k l p s b = some (x, p', s')) ∧ x.length ≤ 8 ∧ 0 ≤ p' ∧ p' ≤ p + 1000 := by
  obtain ⟨r, ⟨R1, R2, R3⟩, K, h⟩ := partsOf_l0 hl hn b hb p h0 h1 b.length 0 [] p s (by omega) rfl h0 (by omega)
  refine ⟨r.1, r.2.1, r.2.2, ⟨K, fun k hk => ?_⟩, R1, R2, R3⟩
  unfold spec_l1Cur_partsOf.f
  exact h k hk
theorem drawCheapest_ok {l : List Int} (hl : bytes l) (hn : l.length ≤ maxLen) : ∃ x u le mo im, x.length ≤ 7 ∧ ∃ K, ∀ k, K ≤ k → spec_DrawCheapestBlend.f k l = some (x, u, le, mo, im) := by
  obtain ⟨x, p1, s1, ⟨K, h⟩, hx, h0, h1⟩ := bins_ok hl hn 0
  obtain ⟨u, le, mo, im, p2, s2, e, _, _⟩ := wanted_ok hl hn s1 h0 (by omega)
  refine ⟨x, u, le, mo, im, hx, K, fun k hk => ?_⟩
  unfold spec_DrawCheapestBlend.f spec_DrawCheapestBlend.q
  rw [h k hk]
  simp only [Option.bind_some]
  rw [e]
  rfl
theorem drawMeets_ok {l : List Int} (hl : bytes l) (hn : l.length ≤ maxLen) : ∃ x u le mo im p, x.length ≤ 7 ∧ p.length ≤ 8 ∧ ∃ K, ∀ k, K ≤ k → spec_DrawMeetsWanted.f k l = some (x, u, le, mo, im, p) := by
  obtain ⟨x, p1, s1, ⟨K1, h1⟩, hx, g0, g1⟩ := bins_ok hl hn 0
  obtain ⟨p, p2, s2, ⟨K2, h2⟩, hp, g2, g3⟩ := partsOf_ok hl hn s1 x hx g0 (by omega)
  obtain ⟨u, le, mo, im, p3, s3, e3, g4, g5⟩ := wanted_ok hl hn s2 g2 (by omega)
  obtain ⟨K4, h4⟩ := blParts_ev x p (by omega) (by omega)
  obtain ⟨o, p4, s4, e4, _, _⟩ := one_ok hl hn s3 2 (p := p3) (by omega) (by omega)
  by_cases hc : partsOk x p = true
  · cases o with
    | true =>
      obtain ⟨f1, f2, f3⟩ := parts_small hc
      obtain ⟨K5, h5⟩ := blSums_ev x p (by omega) f1 f3
      obtain ⟨t1, et1⟩ : ∃ t, spec_l1Least.f 12 (rd (sumL (sumsTo x p p.length)) 0) = some t := by
        unfold spec_l1Least.f
        split
        · exact ⟨_, rfl⟩
        · exact ⟨_, rfl⟩
      obtain ⟨t2, et2⟩ : ∃ t, spec_l1Most.f 1 t1 = some t := by
        unfold spec_l1Most.f
        split
        · exact ⟨_, rfl⟩
        · exact ⟨_, rfl⟩
      refine ⟨x, t2, le, mo, im, p, hx, hp, K1 + K2 + K4 + K5 + 1, fun k hk => ?_⟩
      obtain ⟨j, rfl⟩ : ∃ j, k = j + 1 := ⟨k - 1, by omega⟩
      unfold spec_DrawMeetsWanted.f spec_DrawMeetsWanted.q
      rw [h1 (j + 1) (by omega)]
      simp only [Option.bind_some]
      rw [h2 (j + 1) (by omega)]
      simp only [Option.bind_some]
      rw [e3]
      simp only [Option.bind_some]
      rw [h4 (j + 1) (by omega)]
      simp only [Option.bind_some]
      rw [if_pos hc, e4]
      simp only [Option.bind_some, spec_DrawMeetsWanted.j0]
      rw [if_pos trivial, h5 j (by omega)]
      simp only [Option.bind_some]
      rw [if_pos (by simp [sumL]), et1]
      simp only [Option.bind_some]
      rw [et2]
      rfl
    | false =>
      refine ⟨x, u, le, mo, im, p, hx, hp, K1 + K2 + K4 + 1, fun k hk => ?_⟩
      obtain ⟨j, rfl⟩ : ∃ j, k = j + 1 := ⟨k - 1, by omega⟩
      unfold spec_DrawMeetsWanted.f spec_DrawMeetsWanted.q
      rw [h1 (j + 1) (by omega)]
      simp only [Option.bind_some]
      rw [h2 (j + 1) (by omega)]
      simp only [Option.bind_some]
      rw [e3]
      simp only [Option.bind_some]
      rw [h4 (j + 1) (by omega)]
      simp only [Option.bind_some]
      rw [if_pos hc, e4]
      simp only [Option.bind_some, spec_DrawMeetsWanted.j0]
      rw [if_neg (by simp)]
      rfl
  · refine ⟨x, u, le, mo, im, p, hx, hp, K1 + K2 + K4 + 1, fun k hk => ?_⟩
    obtain ⟨j, rfl⟩ : ∃ j, k = j + 1 := ⟨k - 1, by omega⟩
    unfold spec_DrawMeetsWanted.f spec_DrawMeetsWanted.q
    rw [h1 (j + 1) (by omega)]
    simp only [Option.bind_some]
    rw [h2 (j + 1) (by omega)]
    simp only [Option.bind_some]
    rw [e3]
    simp only [Option.bind_some]
    rw [h4 (j + 1) (by omega)]
    simp only [Option.bind_some]
    rw [if_neg hc]
    simp only [spec_DrawMeetsWanted.j0]
    rw [if_neg (by simp)]
    rfl
theorem qIntsM_ev (l : List Int) (hl : l.length ≤ 1048576) : ∃ K, ∀ k, K ≤ k → laws_qInts.f k l l = some true := by
  have h := ev_loop (F := fun k i => laws_qInts.l0 k l l (l.length : Int) (i : Int)) (n := l.length) (res := fun _ => true)
    (ev_suc 0 fun k _ => by simp only [laws_qInts.l0]; rw [if_neg (by omega)])
    (fun i hi K hK => ev_suc K fun k hk => by
      have h2 := hK k hk
      simp only [laws_qInts.l0]
      rw [if_pos (by omega), if_pos (by omega), if_pos (by omega), if_pos (by omega), if_pos trivial, w64s (by omega)]
      exact h2) 0 (Nat.zero_le _)
  obtain ⟨K, h⟩ := h
  refine ⟨K, fun k hk => ?_⟩
  unfold laws_qInts.f
  rw [if_pos rfl]
  exact h k hk
theorem FnBlends : laws_FnBlends.Pure := by
  intro l0 l1 h1 _ hw1 h2 _ hw2
  obtain ⟨l, u, le, mo, im, hl, Ka, ea⟩ := drawCheapest_ok (bytes_of hw1) h1
  obtain ⟨x, u', le', mo', im', p, hx, hp, Kb, eb⟩ := drawMeets_ok (bytes_of hw2) h2
  obtain ⟨c, ⟨K1, e1⟩, ⟨K2, e2⟩, c6, hc1, hc2⟩ := cheapest_tells l (by omega) u le mo im
  obtain ⟨r, ⟨K3, e3⟩, ⟨K4, e4⟩, r6, hr1, hr2⟩ := richest_tells l (by omega) u le mo im
  obtain ⟨n, ⟨K5, e5⟩, ⟨K6, e6⟩, hn1, hn2⟩ := count_tells l (by omega) u le mo im
  obtain ⟨w, ⟨K7, e7⟩, ⟨K8, e8⟩, hw3, hw4⟩ := meets_both x u' le' mo' im' p (by omega) (by omega)
  obtain ⟨K9, e9⟩ := qIntsM_ev c.1 (by omega)
  obtain ⟨K10, e10⟩ := qIntsM_ev r.1 (by omega)
  obtain ⟨K11, e11⟩ := areBins_ev l (by omega)
  obtain ⟨K12, e12⟩ := blBins_ev l (by omega)
  have e13 := isWanted_eq u le mo im
  have e14 := blWanted_eq u le mo im
  -- whether there is a blend that meets it
  have hrc : r.2 = c.2.2 := by
    rw [Bool.eq_iff_iff]
    constructor
    · intro h; obtain ⟨q1, q2, q3⟩ := hr1 h; exact (hc2 q1 _ q2 q3).1
    · intro h; obtain ⟨q1, q2, q3, _⟩ := hc1 h; exact (hr2 q1 _ q2 q3).1
  have hcn : n.2 = true → c.2.2 = decide (n.1 > 0) := by
    intro h
    rw [hn1] at h
    have h3 := hn2 h
    rw [Bool.eq_iff_iff, decide_eq_true_eq]
    constructor
    · intro h4; obtain ⟨_, q2, q3, _⟩ := hc1 h4; exact h3.2 ⟨_, q2, q3⟩
    · intro h4; obtain ⟨m, q2, q3⟩ := h3.1 h4; exact (hc2 h m q2 q3).1
  have hcf : ¬ n.2 = true → c.2.2 = false := by
    intro h
    rw [hn1] at h
    exact Bool.eq_false_iff.mpr fun h4 => h (hc1 h4).1
  have hJ2 : ∃ K, ∀ k, K ≤ k → laws_FnBlends.j2 k l c.1 c.2.2 c.2.1 r.1 u le mo im = some true := by
    by_cases hok : c.2.2 = true
    · obtain ⟨q1, q2, q3, q4⟩ := hc1 hok
      obtain ⟨_, t2, t3⟩ := hr1 (by rw [hrc]; exact hok)
      have q5 := q1
      rw [Bool.and_eq_true] at q5
      have pc := parts_of q5.1 q2
      have pr := parts_of q5.1 t2
      obtain ⟨a, ⟨K20, f1⟩, _, f2, _⟩ := meets_both l u le mo im c.1 (by omega) (by omega)
      obtain ⟨b, ⟨K21, f3⟩, _, f4, _⟩ := meets_both l u le mo im r.1 (by omega) (by omega)
      obtain rfl := f2 q5.2 pc
      obtain rfl := f4 q5.2 pr
      obtain ⟨K22, f5⟩ := blendSums_ev l c.1 (by omega) (by omega) pc
      obtain ⟨K23, f6⟩ := blendSums_ev l r.1 (by omega) (by omega) pr
      have g1 := (hc2 q1 _ t2 t3).2
      have g2 := (hr2 q1 _ q2 q3).2
      have hu : (sumsTo l c.1 c.1.length).1 = u := by
        have := q3
        unfold meetsB at this
        rw [Bool.and_eq_true] at this
        simpa using this.1
      refine ev_suc (K20 + K21 + K22 + K23) fun k hk => ?_
      simp only [laws_FnBlends.j2]
      rw [if_pos hok, f1 k (by omega), f3 k (by omega), f5 k (by omega), f6 k (by omega)]
      simp only [Option.bind_some, if_true]
      rw [if_pos q3, if_pos t3, if_pos hu, if_pos q4.symm, if_pos (by omega)]
      simp only [ge_iff_le, Option.some.injEq, decide_eq_true_eq]
      exact g2
    · refine ev_suc 0 fun k _ => ?_
      simp only [laws_FnBlends.j2]
      rw [if_neg hok]
  obtain ⟨K30, hJ2⟩ := hJ2
  have hJ1 : ∃ K, ∀ k, K ≤ k → laws_FnBlends.j1 k l c.1 c.2.2 c.2.1 r.1 x p (if w.2 = true then w.1 else false) u le mo im u' le' mo' im' = some true := by
    by_cases hq : (if w.2 = true then w.1 else false) = true
    · have hw5 : w.2 = true := by
        apply Classical.byContradiction
        intro h; rw [if_neg h] at hq; cases hq
      obtain ⟨g1, g2⟩ := hw4 hw5
      obtain rfl := hw3 g1 g2
      rw [if_pos rfl] at hq ⊢
      simp only at hq
      have hin := parts_in g2 hq
      obtain ⟨y, ⟨_, _⟩, ⟨K31, e31⟩, _, _, hy⟩ := cheapest_tells x (by omega) u' le' mo' im'
      have hb := ((partsOk_iff x p).1 g2).1
      have hy2 := hy (by rw [hb, g1]; rfl) p hin hq
      obtain ⟨K32, e32⟩ := blendSums_ev x p (by omega) (by omega) g2
      refine ev_suc (K30 + K31 + K32) fun k hk => ?_
      simp only [laws_FnBlends.j1]
      rw [if_pos hq, e31 k (by omega), e32 k (by omega)]
      simp only [Option.bind_some, if_true]
      rw [if_pos hy2.1, if_neg (by omega)]
      exact hJ2 k (by omega)
    · refine ev_suc K30 fun k hk => ?_
      simp only [laws_FnBlends.j1]
      rw [if_neg hq]
      exact hJ2 k (by omega)
  obtain ⟨K40, hJ1⟩ := hJ1
  have hJ0 : ∃ K, ∀ k, K ≤ k → laws_FnBlends.j0 k l c.1 c.2.2 c.2.1 r.1 x p w.2 w.1 (r.2 != c.2.2) u le mo im u' le' mo' im' = some true := by
    refine ev_suc K40 fun k hk => ?_
    simp only [laws_FnBlends.j0]
    rw [hrc, bne_self_eq_false, if_neg (by simp)]
    have h := hJ1 k hk
    by_cases h5 : w.2 = true
    · rw [if_pos h5] at h ⊢; exact h
    · rw [if_neg h5] at h ⊢; exact h
  obtain ⟨K41, hJ0⟩ := hJ0
  obtain ⟨B, hB⟩ : ∃ B, B = Ka + Kb + K1 + K2 + K3 + K4 + K5 + K6 + K7 + K8 + K9 + K10 + K11 + K12 + K41 := ⟨_, rfl⟩
  refine ⟨B, ?_⟩
  unfold laws_FnBlends.f
  by_cases c0 : wrap64 ((l0.length : Int) + (l1.length : Int)) > 1048576
  · rw [if_pos c0]
  rw [if_neg c0, ea B (by omega)]
  simp only [Option.bind_some]
  rw [e2 B (by omega), e1 B (by omega), e4 B (by omega), e3 B (by omega), e6 B (by omega), e5 B (by omega), eb B (by omega)]
  simp only [Option.bind_some]
  rw [e7 B (by omega), e8 B (by omega)]
  simp only [Option.bind_some, bne_self_eq_false, Bool.false_eq_true, if_false, if_true]
  rw [e9 B (by omega)]
  simp only [Option.bind_some, if_true]
  rw [e10 B (by omega)]
  simp only [Option.bind_some, if_true]
  rw [e11 B (by omega), show spec_AreBins.f B l = some (binsOk l) by unfold spec_AreBins.f; rw [e12 B (by omega)]; rfl, e13, show spec_IsWanted.f u le mo im = some (wantOk u le mo im) by unfold spec_IsWanted.f; rw [e14]; rfl]
  simp only [Option.bind_some, bne_self_eq_false, Bool.false_eq_true, if_false, if_true]
  by_cases hn : n.2 = true
  · rw [if_pos hn, hcn hn, bne_self_eq_false, if_neg (by simp), ← hcn hn]
    exact hJ0 B (by omega)
  · rw [if_neg hn, hcf hn, bne_self_eq_false, if_neg (by simp), ← hcf hn]
    exact hJ0 B (by omega)

end Go.Proofs.Ytcinecbfkeefaaa.Pure
