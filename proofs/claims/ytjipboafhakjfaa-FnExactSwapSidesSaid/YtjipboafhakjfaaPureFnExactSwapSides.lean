/- THE PURE SIDE OF FnExactSwapSides: the printed functions of the reference and of the program give the same results. Plain Lean: no memory and no Go. -/
import Derived.Test.YtjipboafhakjfaaPFnExactSwapSidesx3
import Derived.OpenShut
namespace Go.Proofs.Ytjipboafhakjfaa.Pure
open Go.RowKit Go.Proofs.Ytjipboafhakjfaa.PFnExactSwapSides Go.Proofs.YtjipboafhakjfaaW.PrintWords Go.Proofs.YtjipboafhakjfaaW.PrintLast Go.Proofs.YtjipboafhakjfaaW.PrintMore
set_option linter.unusedVariables false
set_option linter.unusedSimpArgs false

theorem w64 {x : Int} (h1 : -9223372036854775808 ≤ x) (h2 : x ≤ 9223372036854775807) : wrap64 x = x := by unfold wrap64; omega
theorem w64s {i : Nat} (h : i ≤ 9000000000000000000) : wrap64 ((i : Int) + 1) = ((i + 1 : Nat) : Int) := by rw [w64 (by omega) (by omega)]; omega
theorem rd_nat (l : List Int) (i : Nat) (h : i < l.length) : rd l (i : Int) = l[i] := by simp [rd, List.getD_eq_getElem?_getD, h]
theorem wf64 {x : Int} (h : (Lit.int .i64 x).wf = true) : -9223372036854775808 ≤ x ∧ x ≤ 9223372036854775807 := by
  have := bounds_i64 h
  omega
def inr (lo hi x : Int) : Bool := decide (lo ≤ x) && decide (x ≤ hi)
theorem inr_iff (lo hi x : Int) : inr lo hi x = true ↔ lo ≤ x ∧ x ≤ hi := by simp [inr]
theorem inr_false (lo hi x : Int) : inr lo hi x = false ↔ ¬ (lo ≤ x ∧ x ≤ hi) := by rw [← inr_iff, Bool.not_eq_true]
theorem mx_of_lt {a b : Int} (h : a < b) : mx a b = b := if_pos h
theorem mx_of_ge {a b : Int} (h : b ≤ a) : mx a b = a := if_neg (by omega)
theorem mx_spec (a b : Int) : a ≤ mx a b ∧ b ≤ mx a b ∧ (mx a b = a ∨ mx a b = b) := by unfold mx; split <;> omega
theorem l1In_eq (a b c : Int) : spec_l1In.f a b c = some (inr b c a) := by
  unfold spec_l1In.f inr
  by_cases h : a ≥ b
  · rw [if_pos h]; simp [show b ≤ a from h]
  · rw [if_neg h]; simp [show ¬ b ≤ a from h]
theorem l1All_l0 (lo hi : Int) (l : List Int) (hl : l.length ≤ 9000000000000000000) : ∀ (d k i : Nat), i + d = l.length → d < k → spec_l1All.l0 k lo hi l (l.length : Int) (i : Int) = some ((l.drop i).all (inr lo hi)) := by
  intro d
  induction d with
  | zero =>
    intro k i hi' hk
    obtain ⟨k, rfl⟩ : ∃ m, k = m + 1 := ⟨k - 1, by omega⟩
    simp only [spec_l1All.l0]
    rw [if_neg (by omega), List.drop_of_length_le (by omega)]; rfl
  | succ d ih =>
    intro k i hi' hk
    obtain ⟨k, rfl⟩ : ∃ m, k = m + 1 := ⟨k - 1, by omega⟩
    have hlt : i < l.length := by omega
    simp only [spec_l1All.l0]
    rw [if_pos (by omega), if_pos (by omega), if_pos (by omega), l1In_eq, List.drop_eq_getElem_cons hlt, List.all_cons, rd_nat l i hlt, w64s (by omega), ih k (i + 1) (by omega) (by omega)]
    simp only [Option.bind_some]
    by_cases h : inr lo hi l[i] = true
    · rw [if_pos h, h, Bool.true_and]
    · rw [if_neg h, Bool.eq_false_iff.mpr h, Bool.false_and]
theorem l1All_eq (lo hi : Int) (l : List Int) (hl : l.length ≤ 9000000000000000000) (k : Nat) (hk : l.length < k) : spec_l1All.f k l lo hi = some (l.all (inr lo hi)) := by
  unfold spec_l1All.f
  exact l1All_l0 lo hi l hl l.length k 0 (by omega) hk
theorem eqIntS_l0 (l : List Int) (hl : l.length ≤ 9000000000000000000) : ∀ (d k i : Nat), i + d = l.length → d < k → laws_eqIntS.l0 k l l (i : Int) = some true := by
  intro d
  induction d with
  | zero =>
    intro k i hi' hk
    obtain ⟨k, rfl⟩ : ∃ m, k = m + 1 := ⟨k - 1, by omega⟩
    simp only [laws_eqIntS.l0]
    rw [if_neg (by omega)]
  | succ d ih =>
    intro k i hi' hk
    obtain ⟨k, rfl⟩ : ∃ m, k = m + 1 := ⟨k - 1, by omega⟩
    simp only [laws_eqIntS.l0]
    rw [if_pos (by omega), if_pos (by omega), if_pos (by omega), if_pos trivial, w64s (by omega)]
    exact ih k (i + 1) (by omega) (by omega)
theorem eqIntS_self (l : List Int) (hl : l.length ≤ 9000000000000000000) (k : Nat) (hk : l.length < k) : laws_eqIntS.f k l l = some true := by
  unfold laws_eqIntS.f
  rw [if_pos rfl]
  exact eqIntS_l0 l hl l.length k 0 (by omega) hk
/-- What 'mark' writes: numbers in their order. -/
def ramp (a : Int) (n : Nat) : List Int := (List.range n).map fun (i : Nat) => a + (i : Int)
theorem ramp_length (a : Int) (n : Nat) : (ramp a n).length = n := by simp [ramp]
theorem ramp_succ (a : Int) (n : Nat) : ramp a (n + 1) = ramp a n ++ [a + (n : Int)] := by simp [ramp, List.range_succ]
theorem ramp_at (a : Int) (n i : Nat) (h : i < n) : rd (ramp a n) (i : Int) = a + (i : Int) := by
  rw [rd_nat _ _ (by rw [ramp_length]; exact h)]
  simp [ramp]
theorem markIntS_l0 (a : Int) (ha : 0 ≤ a ∧ a ≤ 1000000000000000000) (l : List Int) (hl : l.length ≤ 1000000000000000000) : ∀ (d k i : Nat), i + d = l.length → d < k → laws_markIntS.l0 k (ramp a i ++ l.drop i) (a + (i : Int)) (i : Int) = some (a + (l.length : Int), ramp a l.length) := by
  intro d
  induction d with
  | zero =>
    intro k i hi' hk
    obtain ⟨k, rfl⟩ : ∃ m, k = m + 1 := ⟨k - 1, by omega⟩
    obtain rfl : i = l.length := by omega
    simp only [laws_markIntS.l0]
    rw [if_neg (by simp [ramp_length]), List.drop_of_length_le (Nat.le_refl _), List.append_nil]
  | succ d ih =>
    intro k i hi' hk
    obtain ⟨k, rfl⟩ : ∃ m, k = m + 1 := ⟨k - 1, by omega⟩
    have hlt : i < l.length := by omega
    simp only [laws_markIntS.l0]
    rw [if_pos (by simp [ramp_length]; omega), if_pos (by omega), Int.toNat_natCast, List.drop_eq_getElem_cons hlt]
    rw [List.set_append_right _ _ (by rw [ramp_length]; exact Nat.le_refl _), ramp_length, Nat.sub_self, List.set_cons_zero]
    rw [w64s (by omega), w64 (by omega) (by omega)]
    have h := ih k (i + 1) (by omega) (by omega)
    rw [ramp_succ, List.append_assoc, List.singleton_append, show a + ((i + 1 : Nat) : Int) = a + (i : Int) + 1 from by omega] at h
    exact h
theorem markIntS_eq (a : Int) (ha : 0 ≤ a ∧ a ≤ 1000000000000000000) (l : List Int) (hl : l.length ≤ 1000000000000000000) (k : Nat) (hk : l.length < k) : laws_markIntS.f k l a = some (a + (l.length : Int), ramp a l.length) := by
  unfold laws_markIntS.f
  have h := markIntS_l0 a ha l hl l.length k 0 (by omega) hk
  simpa [ramp] using h
theorem heldIntS_l0 (a : Int) (ha : 0 ≤ a ∧ a ≤ 1000000000000000000) (n : Nat) (hl : n ≤ 1000000000000000000) : ∀ (d k i : Nat), i + d = n → d < k → laws_heldIntS.l0 k (ramp a n) (a + (i : Int)) (i : Int) = some (a + (n : Int)) := by
  intro d
  induction d with
  | zero =>
    intro k i hi' hk
    obtain ⟨k, rfl⟩ : ∃ m, k = m + 1 := ⟨k - 1, by omega⟩
    obtain rfl : i = n := by omega
    simp only [laws_heldIntS.l0]
    rw [if_neg (by rw [ramp_length]; omega)]
  | succ d ih =>
    intro k i hi' hk
    obtain ⟨k, rfl⟩ : ∃ m, k = m + 1 := ⟨k - 1, by omega⟩
    simp only [laws_heldIntS.l0]
    rw [if_pos (by rw [ramp_length]; omega), if_pos (by omega), ramp_at a n i (by omega), if_pos rfl, w64s (by omega), w64 (by omega) (by omega)]
    have h := ih k (i + 1) (by omega) (by omega)
    rw [show a + ((i + 1 : Nat) : Int) = a + (i : Int) + 1 from by omega] at h
    exact h
theorem heldIntS_eq (a : Int) (ha : 0 ≤ a ∧ a ≤ 1000000000000000000) (n : Nat) (hl : n ≤ 1000000000000000000) (k : Nat) (hk : n < k) : laws_heldIntS.f k (ramp a n) a = some (a + (n : Int)) := by
  unfold laws_heldIntS.f
  have h := heldIntS_l0 a ha n hl n k 0 (by omega) hk
  simpa using h

theorem ev_loop {β : Type} {F : Nat → Nat → Option β} {n : Nat} {res : Nat → β} (last : ∃ K, ∀ k, K ≤ k → F k n = some (res n)) (step : ∀ i, i < n → ∀ K, (∀ k, K ≤ k → F k (i + 1) = some (res (i + 1))) → ∃ K, ∀ k, K ≤ k → F k i = some (res i)) : ∀ i, i ≤ n → ∃ K, ∀ k, K ≤ k → F k i = some (res i) := by
  have key : ∀ d i, i + d = n → ∃ K, ∀ k, K ≤ k → F k i = some (res i) := by
    intro d
    induction d with
    | zero => intro i h; obtain rfl : i = n := by omega
              exact last
    | succ d ih =>
      intro i h
      obtain ⟨K, hK⟩ := ih (i + 1) (by omega)
      exact step i (by omega) K hK
  exact fun i h => key (n - i) i (by omega)
/-- One round more. -/
theorem ev_suc {β : Type} {g : Nat → Option β} {r : β} (K : Nat) (h : ∀ k, K ≤ k → g (k + 1) = some r) : ∃ K, ∀ k, K ≤ k → g k = some r :=
  ⟨K + 1, fun k hk => by obtain ⟨k, rfl⟩ : ∃ m, k = m + 1 := ⟨k - 1, by omega⟩; exact h k (by omega)⟩
theorem fill_step {α : Type} (l : List α) (z : α) (i : Nat) (h : i < l.length) : (l.take i ++ List.replicate (l.length - i) z).set i l[i] = l.take (i + 1) ++ List.replicate (l.length - (i + 1)) z := by
  have e : l.length - i = (l.length - (i + 1)) + 1 := by omega
  rw [List.set_append_right _ _ (by rw [List.length_take]; omega), List.length_take, Nat.min_eq_left (by omega), Nat.sub_self, e, List.replicate_succ, List.set_cons_zero, List.take_succ_eq_append_getElem h, List.append_assoc, List.singleton_append]
theorem fill_length {α : Type} (l : List α) (z : α) (i : Nat) (h : i ≤ l.length) : (l.take i ++ List.replicate (l.length - i) z).length = l.length := by
  rw [List.length_append, List.length_take, List.length_replicate]; omega
theorem fill_last {α : Type} (l : List α) (z : α) : l.take l.length ++ List.replicate (l.length - l.length) z = l := by simp
theorem toIntS_ev (l : List Int) (hl : l.length ≤ 1048576) : ∃ K, ∀ k, K ≤ k → laws_toIntS.f k l = some l := by
  have h := ev_loop (F := fun k i => laws_toIntS.l0 k l (l.take i ++ List.replicate (l.length - i) 0) (i : Int)) (n := l.length) (res := fun _ => l)
    (ev_suc 0 fun k _ => by simp only [laws_toIntS.l0]; rw [if_neg (by omega), fill_last])
    (fun i hi K hK => ev_suc K fun k hk => by
      simp only [laws_toIntS.l0]
      rw [if_pos (by omega), if_pos (by omega), if_pos (by rw [fill_length l 0 i (by omega)]; omega), Int.toNat_natCast, rd_nat l i hi, fill_step l 0 i hi, w64s (by omega)]
      exact hK k hk) 0 (Nat.zero_le _)
  obtain ⟨K, h⟩ := h
  refine ⟨K, fun k hk => ?_⟩
  unfold laws_toIntS.f
  rw [if_pos (by omega), if_pos (by omega), Int.toNat_natCast]
  simpa using h k hk
theorem eqIntS_ev (l : List Int) (hl : l.length ≤ 1048576) : ∃ K, ∀ k, K ≤ k → laws_eqIntS.f k l l = some true :=
  ⟨l.length + 1, fun k hk => eqIntS_self l (by omega) k (by omega)⟩
theorem markIntS_ev (l : List Int) (hl : l.length ≤ 1048576) (a : Int) (ha : 0 ≤ a ∧ a ≤ 1000000000000000000) : ∃ K, ∀ k, K ≤ k → laws_markIntS.f k l a = some (a + (l.length : Int), ramp a l.length) :=
  ⟨l.length + 1, fun k hk => markIntS_eq a ha l (by omega) k (by omega)⟩
theorem heldIntS_ev (n : Nat) (hl : n ≤ 1048576) (a : Int) (ha : 0 ≤ a ∧ a ≤ 1000000000000000000) : ∃ K, ∀ k, K ≤ k → laws_heldIntS.f k (ramp a n) a = some (a + (n : Int)) :=
  ⟨n + 1, fun k hk => heldIntS_eq a ha n (by omega) k (by omega)⟩
theorem l1All_ev (lo hi : Int) (l : List Int) (hl : l.length ≤ 1048576) : ∃ K, ∀ k, K ≤ k → spec_l1All.f k l lo hi = some (l.all (inr lo hi)) :=
  ⟨l.length + 1, fun k hk => l1All_eq lo hi l (by omega) k (by omega)⟩

/-- A number put into an increasing list, unless it is there. -/
def put : List Int → Int → List Int
  | [], n => [n]
  | x :: r, n => if x < n then x :: put r n else if x = n then x :: r else n :: x :: r
theorem put_mem (n z : Int) : ∀ l : List Int, z ∈ put l n ↔ z = n ∨ z ∈ l := by
  intro l
  induction l with
  | nil => simp [put]
  | cons x r ih =>
    simp only [put]
    split
    · rw [List.mem_cons, ih, List.mem_cons]
      constructor
      · rintro (h | h | h) <;> simp [h]
      · rintro (h | h | h) <;> simp [h]
    · split
      · rename_i h
        rw [List.mem_cons]
        constructor
        · intro h2; exact .inr h2
        · rintro (h2 | h2)
          · exact .inl (h2.trans h.symm)
          · exact h2
      · simp
theorem put_sorted (n : Int) : ∀ l : List Int, l.Pairwise (· < ·) → (put l n).Pairwise (· < ·) := by
  intro l
  induction l with
  | nil => intro _; simp [put]
  | cons x r ih =>
    intro h
    obtain ⟨h1, h2⟩ := List.pairwise_cons.1 h
    simp only [put]
    split
    · rename_i hx
      refine List.pairwise_cons.2 ⟨fun z hz => ?_, ih h2⟩
      rcases (put_mem n z r).1 hz with rfl | hz
      · exact hx
      · exact h1 z hz
    · split
      · exact h
      · refine List.pairwise_cons.2 ⟨fun z hz => ?_, h⟩
        rcases List.mem_cons.1 hz with rfl | hz
        · omega
        · have := h1 z hz
          omega
theorem put_length (n : Int) : ∀ l : List Int, l.Pairwise (· < ·) → (put l n).length = if n ∈ l then l.length else l.length + 1 := by
  intro l
  induction l with
  | nil => intro _; simp [put]
  | cons x r ih =>
    intro h
    obtain ⟨h1, h2⟩ := List.pairwise_cons.1 h
    simp only [put]
    split
    · rename_i hx
      rw [List.length_cons, ih h2, List.length_cons]
      have e : n ∈ x :: r ↔ n ∈ r := by
        rw [List.mem_cons]
        constructor
        · rintro (h | h)
          · omega
          · exact h
        · exact .inr
      by_cases hn : n ∈ r
      · rw [if_pos hn, if_pos (e.2 hn)]
      · rw [if_neg hn, if_neg (fun h => hn (e.1 h))]
    · split
      · rename_i hx
        rw [if_pos (by rw [← hx]; exact List.mem_cons_self)]
      · rw [if_neg (fun hn => by
          rcases List.mem_cons.1 hn with hn | hn
          · omega
          · have := h1 n hn
            omega)]
        rfl
theorem put_len_le (n : Int) (l : List Int) : (put l n).length ≤ l.length + 1 := by
  induction l with
  | nil => simp [put]
  | cons x r ih => simp only [put]; split <;> (try split) <;> simp <;> omega
theorem l1Put_ev (l : List Int) (hl : l.length ≤ 2097152) (n : Int) : ∃ K, ∀ k, K ≤ k → spec_l1Put.f k l n = some (put l n) := by
  have h := ev_loop (F := fun k i => spec_l1Put.l0 k l n (i : Int)) (n := l.length) (res := fun i => l.take i ++ put (l.drop i) n)
    (ev_suc 0 fun k _ => by
      simp only [spec_l1Put.l0]
      rw [if_neg (by omega)]
      simp only [Option.bind_some]
      rw [if_pos (by omega), if_pos (by omega)]
      simp only [Option.bind_some, Int.toNat_natCast, List.nil_append, List.take_length, List.drop_length, List.length_nil, Nat.zero_add]
      rw [if_pos (by omega)]
      try simp only [Option.bind_some]
      rw [if_pos (by omega)]
      try simp only [Option.bind_some, List.length_append, List.length_singleton, List.length_nil]
      rw [if_pos (by omega)]
      simp [put])
    (fun i hi K hK => ev_suc K fun k hk => by
      simp only [spec_l1Put.l0]
      rw [if_pos (by omega), if_pos (by omega), rd_nat l i hi, List.drop_eq_getElem_cons hi]
      simp only [put]
      by_cases h1 : l[i] < n
      · rw [if_pos h1, if_pos h1, w64s (by omega), hK k hk, List.take_succ_eq_append_getElem hi, List.append_assoc, List.singleton_append]
      · rw [if_neg h1, if_neg h1]
        by_cases h2 : l[i] = n
        · rw [if_pos h2, if_pos h2, ← List.drop_eq_getElem_cons hi, List.take_append_drop]
        · rw [if_neg h2, if_neg h2]
          simp only [Option.bind_some]
          rw [if_pos (by omega)]
          simp only [Option.bind_some, Int.toNat_natCast, List.nil_append, List.length_nil, Nat.zero_add]
          rw [if_pos (by rw [List.length_take]; omega)]
          try simp only [Option.bind_some]
          rw [if_pos (by rw [List.length_take]; omega)]
          try simp only [Option.bind_some]
          rw [if_pos (by simp only [List.length_append, List.length_take, List.length_drop, List.length_singleton]; omega), ← List.drop_eq_getElem_cons hi]
          simp) 0 (Nat.zero_le _)
  simpa [spec_l1Put.f] using h
/-- A list that has all numbers from 0 to n - 1. -/
def isMatchP (l : List Int) (n : Int) : Prop := (l.length : Int) = n ∧ (∀ x ∈ l, 0 ≤ x ∧ x < n) ∧ l.Nodup
instance (l : List Int) (n : Int) : Decidable (isMatchP l n) := by unfold isMatchP; exact inferInstance
def metOf (l : List Int) : List Int := l.foldl put []
theorem met_snoc (l : List Int) (x : Int) : metOf (l ++ [x]) = put (metOf l) x := by simp [metOf, List.foldl_append]
theorem met_facts (l : List Int) : ∀ i, i ≤ l.length → (metOf (l.take i)).Pairwise (· < ·) ∧ (∀ z, z ∈ metOf (l.take i) ↔ z ∈ l.take i) ∧ (metOf (l.take i)).length ≤ i ∧ ((metOf (l.take i)).length = i ↔ (l.take i).Nodup) := by
  intro i
  induction i with
  | zero => intro _; simp [metOf]
  | succ i ih =>
    intro hi
    have hlt : i < l.length := by omega
    obtain ⟨h1, h2, h3, h4⟩ := ih (by omega)
    rw [List.take_succ_eq_append_getElem hlt, met_snoc]
    refine ⟨put_sorted _ _ h1, fun z => ?_, ?_, ?_⟩
    · rw [put_mem, h2 z, List.mem_append, List.mem_singleton]
      exact Or.comm
    · rw [put_length _ _ h1]
      split <;> omega
    · rw [put_length _ _ h1, List.nodup_append]
      by_cases hm : l[i] ∈ metOf (l.take i)
      · rw [if_pos hm]
        constructor
        · intro h; omega
        · rintro ⟨_, _, h⟩
          exact absurd rfl (h _ ((h2 _).1 hm) _ (List.mem_singleton.2 rfl))
      · rw [if_neg hm]
        constructor
        · intro h
          refine ⟨h4.1 (by omega), by simp, fun a ha b hb => ?_⟩
          rw [List.mem_singleton.1 hb]
          rintro rfl
          exact hm ((h2 _).2 ha)
        · rintro ⟨h, _, _⟩
          have := h4.2 h
          omega
theorem maMatch_ev (l : List Int) (hl : l.length ≤ 1048576) (n : Int) (hn : 0 ≤ n ∧ n ≤ 1048576) : ∃ K, ∀ k, K ≤ k → spec_maMatch.f k l n = some (decide (isMatchP l n ∧ 1 ≤ n ∧ n ≤ 7)) := by
  obtain ⟨f1, f2, f3, f4⟩ := met_facts l l.length (Nat.le_refl _)
  rw [List.take_length] at f1 f2 f3 f4
  obtain ⟨Ka, ha⟩ := l1All_ev 0 (n - 1) l hl
  have h := ev_loop (F := fun k i => spec_maMatch.l0 k l n (metOf (l.take i)) l (l.length : Int) (i : Int)) (n := l.length) (res := fun _ => decide (isMatchP l n ∧ 1 ≤ n ∧ n ≤ 7))
    (ev_suc Ka fun k hk => by
      simp only [spec_maMatch.l0]
      rw [if_neg (by omega), List.take_length, l1In_eq, w64 (by omega) (by omega), ha k hk]
      simp only [Option.bind_some]
      by_cases h1 : (l.length : Int) = n
      · rw [if_pos h1]
        by_cases h2 : ((metOf l).length : Int) = n
        · rw [if_pos h2]
          have hnd : l.Nodup := f4.1 (by omega)
          by_cases h3 : inr 1 7 n = true
          · rw [if_pos h3]
            have h3' := (inr_iff _ _ _).1 h3
            congr 1
            rw [Bool.eq_iff_iff, List.all_eq_true, decide_eq_true_eq]
            simp only [inr_iff]
            constructor
            · intro h4
              exact ⟨⟨h1, fun x hx => by have := h4 x hx; omega, hnd⟩, h3'⟩
            · rintro ⟨⟨_, h4, _⟩, _⟩ x hx
              have := h4 x hx
              omega
          · rw [if_neg h3, decide_eq_false (fun h4 => h3 ((inr_iff _ _ _).2 h4.2))]
        · rw [if_neg h2, decide_eq_false (fun h4 => h2 (by have := f4.2 h4.1.2.2; omega))]
      · rw [if_neg h1, decide_eq_false (fun h4 => h1 h4.1.1)])
    (fun i hi K hK => by
      obtain ⟨_, _, f5, _⟩ := met_facts l i (by omega)
      obtain ⟨K2, h2⟩ := l1Put_ev (metOf (l.take i)) (by omega) l[i]
      exact ev_suc (max K K2) fun k hk => by
        simp only [spec_maMatch.l0]
        rw [if_pos (by omega), if_pos (by omega), if_pos (by omega), rd_nat l i hi, h2 k (by omega)]
        simp only [Option.bind_some]
        rw [w64s (by omega), ← met_snoc, ← List.take_succ_eq_append_getElem hi]
        exact hK k (by omega)) 0 (Nat.zero_le _)
  simpa [spec_maMatch.f, metOf] using h
def seenOf (l : List Int) (n : Nat) : List Bool := (List.range n).map fun (j : Nat) => decide ((j : Int) ∈ l)
theorem seen_length (l : List Int) (n : Nat) : (seenOf l n).length = n := by simp [seenOf]
theorem seen_at (l : List Int) (n : Nat) (x : Int) (h0 : 0 ≤ x) (h1 : x < n) : rdOf false (seenOf l n) x = decide (x ∈ l) := by
  have hx : x.toNat < n := by omega
  simp only [rdOf, seenOf, List.getD_eq_getElem?_getD, List.getElem?_map]
  rw [List.getElem?_range hx]
  simp only [Option.map_some, Option.getD_some]
  rw [Int.toNat_of_nonneg h0]
theorem seen_set (l : List Int) (n : Nat) (x : Int) (h0 : 0 ≤ x) (h1 : x < n) : (seenOf l n).set x.toNat true = seenOf (l ++ [x]) n := by
  apply List.ext_getElem
  · simp [seenOf]
  · intro j hj hj2
    simp only [List.length_set, seen_length] at hj
    rw [List.getElem_set]
    simp only [seenOf, List.getElem_map, List.getElem_range, List.mem_append, List.mem_singleton]
    by_cases hx : x.toNat = j
    · rw [if_pos hx]
      have : (j : Int) = x := by omega
      simp [this]
    · rw [if_neg hx]
      have : ¬ (j : Int) = x := by omega
      simp [this]
theorem implIsMatch_ev (l : List Int) (hl : l.length ≤ 1048576) (n : Int) (hn : 0 ≤ n ∧ n ≤ 1048576) : ∃ K, ∀ k, K ≤ k → impl_isMatch.f k l n = some (decide (isMatchP l n)) := by
  obtain ⟨m, rfl⟩ := Int.eq_ofNat_of_zero_le hn.1
  by_cases hlen : (l.length : Int) = (m : Int)
  · have h := ev_loop (F := fun k i => impl_isMatch.l0 k (m : Int) (seenOf (l.take i) m) l (l.length : Int) (i : Int)) (n := l.length)
      (res := fun i => decide ((∀ x ∈ l.drop i, 0 ≤ x ∧ x < (m : Int)) ∧ (l.drop i).Nodup ∧ ∀ x ∈ l.drop i, x ∉ l.take i))
      (ev_suc 0 fun k _ => by
        simp only [impl_isMatch.l0]
        rw [if_neg (by omega), List.drop_length, decide_eq_true (by simp)])
      (fun i hi K hK => ev_suc K fun k hk => by
        simp only [impl_isMatch.l0]
        rw [if_pos (by omega), if_pos (by omega), if_pos (by omega), rd_nat l i hi, List.drop_eq_getElem_cons hi]
        by_cases h1 : l[i] < 0
        · rw [if_pos h1, decide_eq_false (fun h => by have := h.1 l[i] List.mem_cons_self; omega)]
        · rw [if_neg h1]
          by_cases h2 : l[i] ≥ (m : Int)
          · rw [if_pos h2, decide_eq_false (fun h => by have := h.1 l[i] List.mem_cons_self; omega)]
          · rw [if_neg h2, if_pos (by omega), if_pos (by rw [seen_length]; omega), seen_at _ _ _ (by omega) (by omega), seen_set _ _ _ (by omega) (by omega), w64s (by omega), ← List.take_succ_eq_append_getElem hi]
            by_cases h3 : l[i] ∈ l.take i
            · rw [if_pos (decide_eq_true h3), decide_eq_false (fun h => h.2.2 l[i] List.mem_cons_self h3)]
            · rw [if_neg (by simpa using h3), hK k hk]
              congr 1
              rw [decide_eq_decide, List.take_succ_eq_append_getElem hi]
              simp only [List.mem_cons, List.mem_append, List.mem_singleton, List.nodup_cons, List.not_mem_nil, or_false]
              constructor
              · rintro ⟨a1, a2, a3⟩
                refine ⟨?_, ⟨fun hm => (a3 _ hm) (.inr rfl), a2⟩, ?_⟩
                · rintro x (rfl | hx)
                  · omega
                  · exact a1 x hx
                · rintro x (rfl | hx)
                  · exact h3
                  · exact fun hm => a3 x hx (.inl hm)
              · rintro ⟨a1, ⟨a2, a3⟩, a4⟩
                refine ⟨fun x hx => a1 x (.inr hx), a3, fun x hx => ?_⟩
                rintro (hm | rfl)
                · exact a4 x (.inr hx) hm
                · exact a2 hx) 0 (Nat.zero_le _)
    obtain ⟨K, h⟩ := h
    refine ⟨K, fun k hk => ?_⟩
    have h2 := h k hk
    unfold impl_isMatch.f
    rw [if_pos hlen, if_pos (by omega), if_pos (by simp only [Int.toNat_natCast]; omega), Int.toNat_natCast]
    have e : seenOf (l.take 0) m = List.replicate m false := by
      apply List.ext_getElem <;> simp [seenOf]
    rw [e] at h2
    rw [show (0 : Int) = ((0 : Nat) : Int) from rfl, h2]
    congr 1
    rw [decide_eq_decide]
    simp [isMatchP, hlen]
  · refine ⟨0, fun k _ => ?_⟩
    unfold impl_isMatch.f
    rw [if_neg hlen, decide_eq_false (fun h => hlen h.1)]
/-- The trucks of the shovels, after the first trucks were looked at. -/
def swapTo (m : List Int) : Nat → List Int
  | 0 => List.replicate m.length 0
  | i + 1 => (swapTo m i).set (rd m (i : Int)).toNat (i : Int)
theorem swapTo_length (m : List Int) : ∀ i, (swapTo m i).length = m.length := by
  intro i
  induction i with
  | zero => simp [swapTo]
  | succ i ih => simp [swapTo, ih]
theorem swap_ev (m : List Int) (hl : m.length ≤ 1048576) (hp : isMatchP m (m.length : Int)) : (∃ K, ∀ k, K ≤ k → spec_maSwap.f k m = some (swapTo m m.length)) ∧ ∃ K, ∀ k, K ≤ k → impl_swapSides.f k m = some (swapTo m m.length) := by
  have hr : ∀ i, i < m.length → 0 ≤ rd m (i : Int) ∧ rd m (i : Int) < (m.length : Int) := fun i hi => by
    rw [rd_nat m i hi]
    exact hp.2.1 _ (List.getElem_mem hi)
  have h1 := ev_loop (F := fun k i => spec_maSwap.l0 k (swapTo m i) m (m.length : Int) (i : Int)) (n := m.length) (res := fun _ => swapTo m m.length)
    (ev_suc 0 fun k _ => by simp only [spec_maSwap.l0]; rw [if_neg (by omega)])
    (fun i hi K hK => ev_suc K fun k hk => by
      have h2 := hr i hi
      have h3 := swapTo_length m i
      simp only [spec_maSwap.l0]
      rw [if_pos (by omega), if_pos (by omega), if_pos (by omega), if_pos (by omega), if_pos (by omega), w64s (by omega)]
      exact hK k hk) 0 (Nat.zero_le _)
  have h2 := ev_loop (F := fun k i => impl_swapSides.l0 k (swapTo m i) m (m.length : Int) (i : Int)) (n := m.length) (res := fun _ => swapTo m m.length)
    (ev_suc 0 fun k _ => by simp only [impl_swapSides.l0]; rw [if_neg (by omega)])
    (fun i hi K hK => ev_suc K fun k hk => by
      have h2 := hr i hi
      have h3 := swapTo_length m i
      simp only [impl_swapSides.l0]
      rw [if_pos (by omega), if_pos (by omega), if_pos (by omega), if_pos (by omega), if_pos (by omega), w64s (by omega)]
      exact hK k hk) 0 (Nat.zero_le _)
  constructor
  · obtain ⟨K, h⟩ := h1
    refine ⟨K, fun k hk => ?_⟩
    unfold spec_maSwap.f
    rw [if_pos (by omega), if_pos (by omega), Int.toNat_natCast]
    exact h k hk
  · obtain ⟨K, h⟩ := h2
    refine ⟨K, fun k hk => ?_⟩
    unfold impl_swapSides.f
    rw [if_pos (by omega), if_pos (by omega), Int.toNat_natCast]
    exact h k hk
theorem swapSides_both (m : List Int) (hl : m.length ≤ 1048576) : ∃ r, (∃ K, ∀ k, K ≤ k → spec_SwapSides.f k m = some r) ∧ (∃ K, ∀ k, K ≤ k → impl_SwapSides.f k m = some r) ∧ r.1.length ≤ 7 ∧ (isMatchP m (m.length : Int) → 1 ≤ m.length → m.length ≤ 7 → r = (swapTo m m.length, true)) ∧ (¬ (isMatchP m (m.length : Int) ∧ 1 ≤ m.length ∧ m.length ≤ 7) → r = ([], false)) := by
  obtain ⟨K3, h3⟩ := maMatch_ev m hl (m.length : Int) (by omega)
  obtain ⟨K4, h4⟩ := implIsMatch_ev m hl (m.length : Int) (by omega)
  by_cases hp : isMatchP m (m.length : Int) ∧ 1 ≤ m.length ∧ m.length ≤ 7
  · obtain ⟨⟨K5, h5⟩, K6, h6⟩ := swap_ev m hl hp.1
    refine ⟨(swapTo m m.length, true), ⟨K3 + K5, fun k hk => ?_⟩, ⟨K4 + K6, fun k hk => ?_⟩, by simp only [swapTo_length]; omega, fun _ _ _ => rfl, fun h => absurd hp h⟩
    · unfold spec_SwapSides.f
      rw [h3 k (by omega)]
      simp only [Option.bind_some]
      rw [if_pos (decide_eq_true ⟨hp.1, by omega, by omega⟩), h5 k (by omega)]
      rfl
    · unfold impl_SwapSides.f
      rw [if_neg (by omega), if_neg (by omega), h4 k (by omega)]
      simp only [Option.bind_some]
      rw [if_pos (decide_eq_true hp.1), h6 k (by omega)]
      rfl
  · refine ⟨([], false), ⟨K3, fun k hk => ?_⟩, ⟨K4, fun k hk => ?_⟩, by simp, fun a b c => absurd ⟨a, b, c⟩ hp, fun _ => rfl⟩
    · unfold spec_SwapSides.f
      rw [h3 k (by omega)]
      simp only [Option.bind_some]
      rw [if_neg (by simp only [decide_eq_true_eq]; exact fun h => hp ⟨h.1, by omega, by omega⟩)]
    · unfold impl_SwapSides.f
      by_cases h1 : (m.length : Int) < 1
      · rw [if_pos h1]
      · rw [if_neg h1]
        by_cases h2 : (m.length : Int) > 7
        · rw [if_pos h2]
        · rw [if_neg h2, h4 k (by omega)]
          simp only [Option.bind_some]
          rw [if_neg (by simp only [decide_eq_true_eq]; intro h; exact hp ⟨h, by omega, by omega⟩)]
theorem FnExactSwapSides (m : List Int) (hl : m.length ≤ maxLen) (_ : ∀ z ∈ m, (Lit.int .i64 z).wf = true) : ∃ k, laws_FnExactSwapSides.f k m = some true := by
  by_cases hm : (m.length : Int) > 1048576
  · refine ⟨0, ?_⟩
    unfold laws_FnExactSwapSides.f
    rw [if_pos hm]
  · obtain ⟨r, ⟨K1, h1⟩, ⟨K2, h2⟩, hr, _⟩ := swapSides_both m (by omega)
    obtain ⟨K3, h3⟩ := toIntS_ev m (by omega)
    obtain ⟨K4, h4⟩ := eqIntS_ev m (by omega)
    obtain ⟨K5, h5⟩ := eqIntS_ev r.1 (by omega)
    obtain ⟨K6, h6⟩ := markIntS_ev m (by omega) 1 (by omega)
    obtain ⟨K7, h7⟩ := markIntS_ev r.1 (by omega) 1 (by omega)
    obtain ⟨K8, h8⟩ := heldIntS_ev r.1.length (by omega) 1 (by omega)
    refine ⟨K1 + K2 + K3 + K4 + K5 + K6 + K7 + K8 + 5, ?_⟩
    have q1 : ¬ (1 + (m.length : Int) < 0) := by omega
    have q2 : ¬ (1 + (r.1.length : Int) < 0) := by omega
    simp (disch := omega) only [laws_FnExactSwapSides.f, hm, if_false, h1, h2, h3, h4, h5, h6, h7, h8, q1, q2, Option.bind_some, if_true, bne_self_eq_false, Bool.false_eq_true]
    simp (disch := omega) only [laws_FnExactSwapSides.j0, hm, if_false, h1, h2, h3, h4, h5, h6, h7, h8, q1, q2, Option.bind_some, if_true, bne_self_eq_false, Bool.false_eq_true]
    simp (disch := omega) only [laws_FnExactSwapSides.j1, hm, if_false, h1, h2, h3, h4, h5, h6, h7, h8, q1, q2, Option.bind_some, if_true, bne_self_eq_false, Bool.false_eq_true]
    simp (disch := omega) only [laws_FnExactSwapSides.j2, hm, if_false, h1, h2, h3, h4, h5, h6, h7, h8, q1, q2, Option.bind_some, if_true, bne_self_eq_false, Bool.false_eq_true]
end Go.Proofs.Ytjipboafhakjfaa.Pure
