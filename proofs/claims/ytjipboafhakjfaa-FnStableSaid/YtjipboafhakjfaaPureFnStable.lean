/- THE PURE SIDE OF FnStable: the printed functions of the reference and of the program give the same results. Plain Lean: no memory and no Go. -/
import Derived.Test.YtjipboafhakjfaaPFnStablex14
import Derived.OpenShut
import Derived.Laws.Bits64b
namespace Go.Proofs.Ytjipboafhakjfaa.Pure
open Go.RowKit Go.Proofs.Ytjipboafhakjfaa.PFnStable Go.Proofs.YtjipboafhakjfaaW.PrintWords Go.Proofs.YtjipboafhakjfaaW.PrintLast Go.Proofs.YtjipboafhakjfaaW.PrintMore
set_option linter.unusedVariables false
set_option linter.unusedSimpArgs false

theorem w64 {x : Int} (h1 : -9223372036854775808 ≤ x) (h2 : x ≤ 9223372036854775807) : wrap64 x = x := by unfold wrap64; omega
theorem w64s {i : Nat} (h : i ≤ 9000000000000000000) : wrap64 ((i : Int) + 1) = ((i + 1 : Nat) : Int) := by rw [w64 (by omega) (by omega)]; omega
theorem rd_nat (l : List Int) (i : Nat) (h : i < l.length) : rd l (i : Int) = l[i] := by simp [rd, List.getD_eq_getElem?_getD, h]
def inr (lo hi x : Int) : Bool := decide (lo ≤ x) && decide (x ≤ hi)
theorem inr_iff (lo hi x : Int) : inr lo hi x = true ↔ lo ≤ x ∧ x ≤ hi := by simp [inr]
theorem inr_false (lo hi x : Int) : inr lo hi x = false ↔ ¬ (lo ≤ x ∧ x ≤ hi) := by rw [← inr_iff, Bool.not_eq_true]
theorem l1In_eq (a b c : Int) : spec_l1In.f a b c = some (inr b c a) := by
  unfold spec_l1In.f inr
  by_cases h : a ≥ b
  · rw [if_pos h]; simp [show b ≤ a from h]
  · rw [if_neg h]; simp [show ¬ b ≤ a from h]
theorem l1All_l0 (lo hi : Int) (l : List Int) (hl : l.length ≤ 9000000000000000000) : ∀ (d k i : Nat), i + d = l.length → d < k → spec_l1All.l0 k lo hi l (l.length : Int) (i : Int) = some ((l.drop i).all (inr lo hi)) := by
  intro d
  induction d with
  | zero =>
    intro k i hi' hk
    obtain ⟨k, rfl⟩ : ∃ m, k = m + 1 := ⟨k - 1, by omega⟩
    simp only [spec_l1All.l0]
    rw [if_neg (by omega), List.drop_of_length_le (by omega)]; rfl
  | succ d ih =>
    intro k i hi' hk
    obtain ⟨k, rfl⟩ : ∃ m, k = m + 1 := ⟨k - 1, by omega⟩
    have hlt : i < l.length := by omega
    simp only [spec_l1All.l0]
    rw [if_pos (by omega), if_pos (by omega), if_pos (by omega), l1In_eq, List.drop_eq_getElem_cons hlt, List.all_cons, rd_nat l i hlt, w64s (by omega), ih k (i + 1) (by omega) (by omega)]
    simp only [Option.bind_some]
    by_cases h : inr lo hi l[i] = true
    · rw [if_pos h, h, Bool.true_and]
    · rw [if_neg h, Bool.eq_false_iff.mpr h, Bool.false_and]
theorem l1All_eq (lo hi : Int) (l : List Int) (hl : l.length ≤ 9000000000000000000) (k : Nat) (hk : l.length < k) : spec_l1All.f k l lo hi = some (l.all (inr lo hi)) := by
  unfold spec_l1All.f
  exact l1All_l0 lo hi l hl l.length k 0 (by omega) hk
theorem ev_loop {β : Type} {F : Nat → Nat → Option β} {n : Nat} {res : Nat → β} (last : ∃ K, ∀ k, K ≤ k → F k n = some (res n)) (step : ∀ i, i < n → ∀ K, (∀ k, K ≤ k → F k (i + 1) = some (res (i + 1))) → ∃ K, ∀ k, K ≤ k → F k i = some (res i)) : ∀ i, i ≤ n → ∃ K, ∀ k, K ≤ k → F k i = some (res i) := by
  have key : ∀ d i, i + d = n → ∃ K, ∀ k, K ≤ k → F k i = some (res i) := by
    intro d
    induction d with
    | zero => intro i h; obtain rfl : i = n := by omega
              exact last
    | succ d ih =>
      intro i h
      obtain ⟨K, hK⟩ := ih (i + 1) (by omega)
      exact step i (by omega) K hK
  exact fun i h => key (n - i) i (by omega)
/-- One round more. -/
theorem ev_suc {β : Type} {g : Nat → Option β} {r : β} (K : Nat) (h : ∀ k, K ≤ k → g (k + 1) = some r) : ∃ K, ∀ k, K ≤ k → g k = some r :=
  ⟨K + 1, fun k hk => by obtain ⟨k, rfl⟩ : ∃ m, k = m + 1 := ⟨k - 1, by omega⟩; exact h k (by omega)⟩
theorem fill_step {α : Type} (l : List α) (z : α) (i : Nat) (h : i < l.length) : (l.take i ++ List.replicate (l.length - i) z).set i l[i] = l.take (i + 1) ++ List.replicate (l.length - (i + 1)) z := by
  have e : l.length - i = (l.length - (i + 1)) + 1 := by omega
  rw [List.set_append_right _ _ (by rw [List.length_take]; omega), List.length_take, Nat.min_eq_left (by omega), Nat.sub_self, e, List.replicate_succ, List.set_cons_zero, List.take_succ_eq_append_getElem h, List.append_assoc, List.singleton_append]
theorem fill_length {α : Type} (l : List α) (z : α) (i : Nat) (h : i ≤ l.length) : (l.take i ++ List.replicate (l.length - i) z).length = l.length := by
  rw [List.length_append, List.length_take, List.length_replicate]; omega
theorem rdLL_nat (l : List (List Int)) (i : Nat) (h : i < l.length) : rd_L2 l (i : Int) = l[i] := by simp [rd_L2, List.getD_eq_getElem?_getD, h]
theorem l1All_ev (lo hi : Int) (l : List Int) (hl : l.length ≤ 1048576) : ∃ K, ∀ k, K ≤ k → spec_l1All.f k l lo hi = some (l.all (inr lo hi)) :=
  ⟨l.length + 1, fun k hk => l1All_eq lo hi l (by omega) k (by omega)⟩

/-- A number put into an increasing list, unless it is there. -/
def put : List Int → Int → List Int
  | [], n => [n]
  | x :: r, n => if x < n then x :: put r n else if x = n then x :: r else n :: x :: r
theorem put_mem (n z : Int) : ∀ l : List Int, z ∈ put l n ↔ z = n ∨ z ∈ l := by
  intro l
  induction l with
  | nil => simp [put]
  | cons x r ih =>
    simp only [put]
    split
    · rw [List.mem_cons, ih, List.mem_cons]
      constructor
      · rintro (h | h | h) <;> simp [h]
      · rintro (h | h | h) <;> simp [h]
    · split
      · rename_i h
        rw [List.mem_cons]
        constructor
        · intro h2; exact .inr h2
        · rintro (h2 | h2)
          · exact .inl (h2.trans h.symm)
          · exact h2
      · simp
theorem put_sorted (n : Int) : ∀ l : List Int, l.Pairwise (· < ·) → (put l n).Pairwise (· < ·) := by
  intro l
  induction l with
  | nil => intro _; simp [put]
  | cons x r ih =>
    intro h
    obtain ⟨h1, h2⟩ := List.pairwise_cons.1 h
    simp only [put]
    split
    · rename_i hx
      refine List.pairwise_cons.2 ⟨fun z hz => ?_, ih h2⟩
      rcases (put_mem n z r).1 hz with rfl | hz
      · exact hx
      · exact h1 z hz
    · split
      · exact h
      · refine List.pairwise_cons.2 ⟨fun z hz => ?_, h⟩
        rcases List.mem_cons.1 hz with rfl | hz
        · omega
        · have := h1 z hz
          omega
theorem put_length (n : Int) : ∀ l : List Int, l.Pairwise (· < ·) → (put l n).length = if n ∈ l then l.length else l.length + 1 := by
  intro l
  induction l with
  | nil => intro _; simp [put]
  | cons x r ih =>
    intro h
    obtain ⟨h1, h2⟩ := List.pairwise_cons.1 h
    simp only [put]
    split
    · rename_i hx
      rw [List.length_cons, ih h2, List.length_cons]
      have e : n ∈ x :: r ↔ n ∈ r := by
        rw [List.mem_cons]
        constructor
        · rintro (h | h)
          · omega
          · exact h
        · exact .inr
      by_cases hn : n ∈ r
      · rw [if_pos hn, if_pos (e.2 hn)]
      · rw [if_neg hn, if_neg (fun h => hn (e.1 h))]
    · split
      · rename_i hx
        rw [if_pos (by rw [← hx]; exact List.mem_cons_self)]
      · rw [if_neg (fun hn => by
          rcases List.mem_cons.1 hn with hn | hn
          · omega
          · have := h1 n hn
            omega)]
        rfl
theorem l1Put_ev (l : List Int) (hl : l.length ≤ 2097152) (n : Int) : ∃ K, ∀ k, K ≤ k → spec_l1Put.f k l n = some (put l n) := by
  have h := ev_loop (F := fun k i => spec_l1Put.l0 k l n (i : Int)) (n := l.length) (res := fun i => l.take i ++ put (l.drop i) n)
    (ev_suc 0 fun k _ => by
      simp only [spec_l1Put.l0]
      rw [if_neg (by omega)]
      simp only [Option.bind_some]
      rw [if_pos (by omega), if_pos (by omega)]
      simp only [Option.bind_some, Int.toNat_natCast, List.nil_append, List.take_length, List.drop_length, List.length_nil, Nat.zero_add]
      rw [if_pos (by omega)]
      try simp only [Option.bind_some]
      rw [if_pos (by omega)]
      try simp only [Option.bind_some, List.length_append, List.length_singleton, List.length_nil]
      rw [if_pos (by omega)]
      simp [put])
    (fun i hi K hK => ev_suc K fun k hk => by
      simp only [spec_l1Put.l0]
      rw [if_pos (by omega), if_pos (by omega), rd_nat l i hi, List.drop_eq_getElem_cons hi]
      simp only [put]
      by_cases h1 : l[i] < n
      · rw [if_pos h1, if_pos h1, w64s (by omega), hK k hk, List.take_succ_eq_append_getElem hi, List.append_assoc, List.singleton_append]
      · rw [if_neg h1, if_neg h1]
        by_cases h2 : l[i] = n
        · rw [if_pos h2, if_pos h2, ← List.drop_eq_getElem_cons hi, List.take_append_drop]
        · rw [if_neg h2, if_neg h2]
          simp only [Option.bind_some]
          rw [if_pos (by omega)]
          simp only [Option.bind_some, Int.toNat_natCast, List.nil_append, List.length_nil, Nat.zero_add]
          rw [if_pos (by rw [List.length_take]; omega)]
          try simp only [Option.bind_some]
          rw [if_pos (by rw [List.length_take]; omega)]
          try simp only [Option.bind_some]
          rw [if_pos (by simp only [List.length_append, List.length_take, List.length_drop, List.length_singleton]; omega), ← List.drop_eq_getElem_cons hi]
          simp) 0 (Nat.zero_le _)
  simpa [spec_l1Put.f] using h
/-- A list that has all numbers from 0 to n - 1. -/
def isMatchP (l : List Int) (n : Int) : Prop := (l.length : Int) = n ∧ (∀ x ∈ l, 0 ≤ x ∧ x < n) ∧ l.Nodup
instance (l : List Int) (n : Int) : Decidable (isMatchP l n) := by unfold isMatchP; exact inferInstance
def metOf (l : List Int) : List Int := l.foldl put []
theorem met_snoc (l : List Int) (x : Int) : metOf (l ++ [x]) = put (metOf l) x := by simp [metOf, List.foldl_append]
theorem met_facts (l : List Int) : ∀ i, i ≤ l.length → (metOf (l.take i)).Pairwise (· < ·) ∧ (∀ z, z ∈ metOf (l.take i) ↔ z ∈ l.take i) ∧ (metOf (l.take i)).length ≤ i ∧ ((metOf (l.take i)).length = i ↔ (l.take i).Nodup) := by
  intro i
  induction i with
  | zero => intro _; simp [metOf]
  | succ i ih =>
    intro hi
    have hlt : i < l.length := by omega
    obtain ⟨h1, h2, h3, h4⟩ := ih (by omega)
    rw [List.take_succ_eq_append_getElem hlt, met_snoc]
    refine ⟨put_sorted _ _ h1, fun z => ?_, ?_, ?_⟩
    · rw [put_mem, h2 z, List.mem_append, List.mem_singleton]
      exact Or.comm
    · rw [put_length _ _ h1]
      split <;> omega
    · rw [put_length _ _ h1, List.nodup_append]
      by_cases hm : l[i] ∈ metOf (l.take i)
      · rw [if_pos hm]
        constructor
        · intro h; omega
        · rintro ⟨_, _, h⟩
          exact absurd rfl (h _ ((h2 _).1 hm) _ (List.mem_singleton.2 rfl))
      · rw [if_neg hm]
        constructor
        · intro h
          refine ⟨h4.1 (by omega), by simp, fun a ha b hb => ?_⟩
          rw [List.mem_singleton.1 hb]
          rintro rfl
          exact hm ((h2 _).2 ha)
        · rintro ⟨h, _, _⟩
          have := h4.2 h
          omega
theorem maMatch_ev (l : List Int) (hl : l.length ≤ 1048576) (n : Int) (hn : 0 ≤ n ∧ n ≤ 1048576) : ∃ K, ∀ k, K ≤ k → spec_maMatch.f k l n = some (decide (isMatchP l n ∧ 1 ≤ n ∧ n ≤ 7)) := by
  obtain ⟨f1, f2, f3, f4⟩ := met_facts l l.length (Nat.le_refl _)
  rw [List.take_length] at f1 f2 f3 f4
  obtain ⟨Ka, ha⟩ := l1All_ev 0 (n - 1) l hl
  have h := ev_loop (F := fun k i => spec_maMatch.l0 k l n (metOf (l.take i)) l (l.length : Int) (i : Int)) (n := l.length) (res := fun _ => decide (isMatchP l n ∧ 1 ≤ n ∧ n ≤ 7))
    (ev_suc Ka fun k hk => by
      simp only [spec_maMatch.l0]
      rw [if_neg (by omega), List.take_length, l1In_eq, w64 (by omega) (by omega), ha k hk]
      simp only [Option.bind_some]
      by_cases h1 : (l.length : Int) = n
      · rw [if_pos h1]
        by_cases h2 : ((metOf l).length : Int) = n
        · rw [if_pos h2]
          have hnd : l.Nodup := f4.1 (by omega)
          by_cases h3 : inr 1 7 n = true
          · rw [if_pos h3]
            have h3' := (inr_iff _ _ _).1 h3
            congr 1
            rw [Bool.eq_iff_iff, List.all_eq_true, decide_eq_true_eq]
            simp only [inr_iff]
            constructor
            · intro h4
              exact ⟨⟨h1, fun x hx => by have := h4 x hx; omega, hnd⟩, h3'⟩
            · rintro ⟨⟨_, h4, _⟩, _⟩ x hx
              have := h4 x hx
              omega
          · rw [if_neg h3, decide_eq_false (fun h4 => h3 ((inr_iff _ _ _).2 h4.2))]
        · rw [if_neg h2, decide_eq_false (fun h4 => h2 (by have := f4.2 h4.1.2.2; omega))]
      · rw [if_neg h1, decide_eq_false (fun h4 => h1 h4.1.1)])
    (fun i hi K hK => by
      obtain ⟨_, _, f5, _⟩ := met_facts l i (by omega)
      obtain ⟨K2, h2⟩ := l1Put_ev (metOf (l.take i)) (by omega) l[i]
      exact ev_suc (max K K2) fun k hk => by
        simp only [spec_maMatch.l0]
        rw [if_pos (by omega), if_pos (by omega), if_pos (by omega), rd_nat l i hi, h2 k (by omega)]
        simp only [Option.bind_some]
        rw [w64s (by omega), ← met_snoc, ← List.take_succ_eq_append_getElem hi]
        exact hK k (by omega)) 0 (Nat.zero_le _)
  simpa [spec_maMatch.f, metOf] using h
def seenOf (l : List Int) (n : Nat) : List Bool := (List.range n).map fun (j : Nat) => decide ((j : Int) ∈ l)
theorem seen_length (l : List Int) (n : Nat) : (seenOf l n).length = n := by simp [seenOf]
theorem seen_at (l : List Int) (n : Nat) (x : Int) (h0 : 0 ≤ x) (h1 : x < n) : rdOf false (seenOf l n) x = decide (x ∈ l) := by
  have hx : x.toNat < n := by omega
  simp only [rdOf, seenOf, List.getD_eq_getElem?_getD, List.getElem?_map]
  rw [List.getElem?_range hx]
  simp only [Option.map_some, Option.getD_some]
  rw [Int.toNat_of_nonneg h0]
theorem seen_set (l : List Int) (n : Nat) (x : Int) (h0 : 0 ≤ x) (h1 : x < n) : (seenOf l n).set x.toNat true = seenOf (l ++ [x]) n := by
  apply List.ext_getElem
  · simp [seenOf]
  · intro j hj hj2
    simp only [List.length_set, seen_length] at hj
    rw [List.getElem_set]
    simp only [seenOf, List.getElem_map, List.getElem_range, List.mem_append, List.mem_singleton]
    by_cases hx : x.toNat = j
    · rw [if_pos hx]
      have : (j : Int) = x := by omega
      simp [this]
    · rw [if_neg hx]
      have : ¬ (j : Int) = x := by omega
      simp [this]
theorem implIsMatch_ev (l : List Int) (hl : l.length ≤ 1048576) (n : Int) (hn : 0 ≤ n ∧ n ≤ 1048576) : ∃ K, ∀ k, K ≤ k → impl_isMatch.f k l n = some (decide (isMatchP l n)) := by
  obtain ⟨m, rfl⟩ := Int.eq_ofNat_of_zero_le hn.1
  by_cases hlen : (l.length : Int) = (m : Int)
  · have h := ev_loop (F := fun k i => impl_isMatch.l0 k (m : Int) (seenOf (l.take i) m) l (l.length : Int) (i : Int)) (n := l.length)
      (res := fun i => decide ((∀ x ∈ l.drop i, 0 ≤ x ∧ x < (m : Int)) ∧ (l.drop i).Nodup ∧ ∀ x ∈ l.drop i, x ∉ l.take i))
      (ev_suc 0 fun k _ => by
        simp only [impl_isMatch.l0]
        rw [if_neg (by omega), List.drop_length, decide_eq_true (by simp)])
      (fun i hi K hK => ev_suc K fun k hk => by
        simp only [impl_isMatch.l0]
        rw [if_pos (by omega), if_pos (by omega), if_pos (by omega), rd_nat l i hi, List.drop_eq_getElem_cons hi]
        by_cases h1 : l[i] < 0
        · rw [if_pos h1, decide_eq_false (fun h => by have := h.1 l[i] List.mem_cons_self; omega)]
        · rw [if_neg h1]
          by_cases h2 : l[i] ≥ (m : Int)
          · rw [if_pos h2, decide_eq_false (fun h => by have := h.1 l[i] List.mem_cons_self; omega)]
          · rw [if_neg h2, if_pos (by omega), if_pos (by rw [seen_length]; omega), seen_at _ _ _ (by omega) (by omega), seen_set _ _ _ (by omega) (by omega), w64s (by omega), ← List.take_succ_eq_append_getElem hi]
            by_cases h3 : l[i] ∈ l.take i
            · rw [if_pos (decide_eq_true h3), decide_eq_false (fun h => h.2.2 l[i] List.mem_cons_self h3)]
            · rw [if_neg (by simpa using h3), hK k hk]
              congr 1
              rw [decide_eq_decide, List.take_succ_eq_append_getElem hi]
              simp only [List.mem_cons, List.mem_append, List.mem_singleton, List.nodup_cons, List.not_mem_nil, or_false]
              constructor
              · rintro ⟨a1, a2, a3⟩
                refine ⟨?_, ⟨fun hm => (a3 _ hm) (.inr rfl), a2⟩, ?_⟩
                · rintro x (rfl | hx)
                  · omega
                  · exact a1 x hx
                · rintro x (rfl | hx)
                  · exact h3
                  · exact fun hm => a3 x hx (.inl hm)
              · rintro ⟨a1, ⟨a2, a3⟩, a4⟩
                refine ⟨fun x hx => a1 x (.inr hx), a3, fun x hx => ?_⟩
                rintro (hm | rfl)
                · exact a4 x (.inr hx) hm
                · exact a2 hx) 0 (Nat.zero_le _)
    obtain ⟨K, h⟩ := h
    refine ⟨K, fun k hk => ?_⟩
    have h2 := h k hk
    unfold impl_isMatch.f
    rw [if_pos hlen, if_pos (by omega), if_pos (by simp only [Int.toNat_natCast]; omega), Int.toNat_natCast]
    have e : seenOf (l.take 0) m = List.replicate m false := by
      apply List.ext_getElem <;> simp [seenOf]
    rw [e] at h2
    rw [show (0 : Int) = ((0 : Nat) : Int) from rfl, h2]
    congr 1
    rw [decide_eq_decide]
    simp [isMatchP, hlen]
  · refine ⟨0, fun k _ => ?_⟩
    unfold impl_isMatch.f
    rw [if_neg hlen, decide_eq_false (fun h => hlen h.1)]
/-- The trucks of the shovels, after the first trucks were looked at. -/
def swapTo (m : List Int) : Nat → List Int
  | 0 => List.replicate m.length 0
  | i + 1 => (swapTo m i).set (rd m (i : Int)).toNat (i : Int)
theorem swapTo_length (m : List Int) : ∀ i, (swapTo m i).length = m.length := by
  intro i
  induction i with
  | zero => simp [swapTo]
  | succ i ih => simp [swapTo, ih]
theorem swap_ev (m : List Int) (hl : m.length ≤ 1048576) (hp : isMatchP m (m.length : Int)) : (∃ K, ∀ k, K ≤ k → spec_maSwap.f k m = some (swapTo m m.length)) ∧ ∃ K, ∀ k, K ≤ k → impl_swapSides.f k m = some (swapTo m m.length) := by
  have hr : ∀ i, i < m.length → 0 ≤ rd m (i : Int) ∧ rd m (i : Int) < (m.length : Int) := fun i hi => by
    rw [rd_nat m i hi]
    exact hp.2.1 _ (List.getElem_mem hi)
  have h1 := ev_loop (F := fun k i => spec_maSwap.l0 k (swapTo m i) m (m.length : Int) (i : Int)) (n := m.length) (res := fun _ => swapTo m m.length)
    (ev_suc 0 fun k _ => by simp only [spec_maSwap.l0]; rw [if_neg (by omega)])
    (fun i hi K hK => ev_suc K fun k hk => by
      have h2 := hr i hi
      have h3 := swapTo_length m i
      simp only [spec_maSwap.l0]
      rw [if_pos (by omega), if_pos (by omega), if_pos (by omega), if_pos (by omega), if_pos (by omega), w64s (by omega)]
      exact hK k hk) 0 (Nat.zero_le _)
  have h2 := ev_loop (F := fun k i => impl_swapSides.l0 k (swapTo m i) m (m.length : Int) (i : Int)) (n := m.length) (res := fun _ => swapTo m m.length)
    (ev_suc 0 fun k _ => by simp only [impl_swapSides.l0]; rw [if_neg (by omega)])
    (fun i hi K hK => ev_suc K fun k hk => by
      have h2 := hr i hi
      have h3 := swapTo_length m i
      simp only [impl_swapSides.l0]
      rw [if_pos (by omega), if_pos (by omega), if_pos (by omega), if_pos (by omega), if_pos (by omega), w64s (by omega)]
      exact hK k hk) 0 (Nat.zero_le _)
  constructor
  · obtain ⟨K, h⟩ := h1
    refine ⟨K, fun k hk => ?_⟩
    unfold spec_maSwap.f
    rw [if_pos (by omega), if_pos (by omega), Int.toNat_natCast]
    exact h k hk
  · obtain ⟨K, h⟩ := h2
    refine ⟨K, fun k hk => ?_⟩
    unfold impl_swapSides.f
    rw [if_pos (by omega), if_pos (by omega), Int.toNat_natCast]
    exact h k hk
def prefsOk (l : List (List Int)) : Bool := (l.all fun x => decide (isMatchP x (l.length : Int))) && inr 1 7 (l.length : Int)
theorem prefsOk_iff (l : List (List Int)) : prefsOk l = true ↔ (∀ x ∈ l, isMatchP x (l.length : Int)) ∧ 1 ≤ l.length ∧ l.length ≤ 7 := by
  simp only [prefsOk, Bool.and_eq_true, List.all_eq_true, decide_eq_true_eq, inr_iff]
  constructor
  · rintro ⟨h1, h2, h3⟩
    exact ⟨h1, by omega, by omega⟩
  · rintro ⟨h1, h2, h3⟩
    exact ⟨h1, by omega, by omega⟩
theorem maPreferences_ev (l : List (List Int)) (hl : l.length ≤ 1048576) (hx : ∀ x ∈ l, x.length ≤ 1048576) : ∃ K, ∀ k, K ≤ k → spec_maPreferences.f k l = some (prefsOk l) := by
  have h := ev_loop (F := fun k i => spec_maPreferences.l0 k l l (l.length : Int) (i : Int)) (n := l.length) (res := fun i => ((l.drop i).all fun x => decide (isMatchP x (l.length : Int))) && inr 1 7 (l.length : Int))
    (ev_suc 0 fun k _ => by
      simp only [spec_maPreferences.l0]
      rw [if_neg (by omega), l1In_eq, List.drop_of_length_le (Nat.le_refl _)]
      rfl)
    (fun i hi K hK => by
      obtain ⟨K2, h2⟩ := maMatch_ev l[i] (hx _ (List.getElem_mem hi)) (l.length : Int) (by omega)
      exact ev_suc (max K K2) fun k hk => by
        simp only [spec_maPreferences.l0]
        rw [if_pos (by omega), if_pos (by omega), if_pos (by omega), rdLL_nat l i hi, h2 k (by omega), List.drop_eq_getElem_cons hi, List.all_cons]
        simp only [Option.bind_some]
        by_cases h3 : isMatchP l[i] (l.length : Int)
        · by_cases h4 : 1 ≤ (l.length : Int) ∧ (l.length : Int) ≤ 7
          · rw [if_pos (decide_eq_true ⟨h3, h4⟩), decide_eq_true h3, Bool.true_and, w64s (by omega)]
            exact hK k (by omega)
          · rw [if_neg (by simp only [decide_eq_true_eq]; exact fun h => h4 h.2), (inr_false _ _ _).2 h4, Bool.and_false]
        · rw [if_neg (by simp only [decide_eq_true_eq]; exact fun h => h3 h.1), decide_eq_false h3, Bool.false_and, Bool.false_and]) 0 (Nat.zero_le _)
  exact h
theorem implArePreferences_ev (l : List (List Int)) (hl : l.length ≤ 1048576) (hx : ∀ x ∈ l, x.length ≤ 1048576) : ∃ K, ∀ k, K ≤ k → impl_ArePreferences.f k l = some (prefsOk l) := by
  have h := ev_loop (F := fun k i => impl_ArePreferences.l0 k l l (l.length : Int) (i : Int)) (n := l.length) (res := fun i => (l.drop i).all fun x => decide (isMatchP x (l.length : Int)))
    (ev_suc 0 fun k _ => by
      simp only [impl_ArePreferences.l0]
      rw [if_neg (by omega), List.drop_of_length_le (Nat.le_refl _)]
      rfl)
    (fun i hi K hK => by
      obtain ⟨K2, h2⟩ := implIsMatch_ev l[i] (hx _ (List.getElem_mem hi)) (l.length : Int) (by omega)
      exact ev_suc (max K K2) fun k hk => by
        simp only [impl_ArePreferences.l0]
        rw [if_pos (by omega), if_pos (by omega), if_pos (by omega), rdLL_nat l i hi, h2 k (by omega), List.drop_eq_getElem_cons hi, List.all_cons]
        simp only [Option.bind_some]
        by_cases h3 : isMatchP l[i] (l.length : Int)
        · rw [if_pos (decide_eq_true h3), decide_eq_true h3, Bool.true_and, w64s (by omega)]
          exact hK k (by omega)
        · rw [if_neg (by simp only [decide_eq_true_eq]; exact h3), decide_eq_false h3, Bool.false_and]) 0 (Nat.zero_le _)
  obtain ⟨K, h⟩ := h
  refine ev_suc K fun k hk => ?_
  have hk2 := h k hk
  unfold impl_ArePreferences.f prefsOk
  by_cases h1 : (l.length : Int) < 1
  · rw [if_pos h1, (inr_false _ _ _).2 (by omega), Bool.and_false]
    simp only [impl_ArePreferences.j0]
    rw [if_pos trivial]
  · rw [if_neg h1]
    simp only [impl_ArePreferences.j0]
    by_cases h2 : (l.length : Int) > 7
    · rw [if_pos (by simpa using h2), (inr_false _ _ _).2 (by omega), Bool.and_false]
    · rw [if_neg (by simpa using h2), (inr_iff _ _ _).2 (by omega), Bool.and_true]
      exact hk2
theorem l1Has_ev (l : List Int) (hl : l.length ≤ 1048576) (a : Int) : ∃ K, ∀ k, K ≤ k → spec_l1Has.f k l a = some (decide (a ∈ l)) := by
  have h := ev_loop (F := fun k i => spec_l1Has.l0 k a l (l.length : Int) (i : Int)) (n := l.length) (res := fun i => decide (a ∈ l.drop i))
    (ev_suc 0 fun k _ => by
      simp only [spec_l1Has.l0]
      rw [if_neg (by omega), List.drop_of_length_le (Nat.le_refl _)]
      rfl)
    (fun i hi K hK => ev_suc K fun k hk => by
      simp only [spec_l1Has.l0]
      rw [if_pos (by omega), if_pos (by omega), if_pos (by omega), rd_nat l i hi, List.drop_eq_getElem_cons hi]
      by_cases h1 : l[i] = a
      · rw [if_pos h1, h1]; simp
      · rw [if_neg h1, w64s (by omega), hK k hk]
        have h2 : ¬ a = l[i] := fun h => h1 h.symm
        exact congrArg some (decide_eq_decide.2 (by rw [List.mem_cons]; exact ⟨.inr, fun h => h.resolve_left h2⟩))) 0 (Nat.zero_le _)
  exact h
/-- Both find the place of a number that is there. -/
theorem rank_both (l : List Int) (hl : l.length ≤ 1048576) (a : Int) (ha : a ∈ l) : ∃ r : Int, (∃ K, ∀ k, K ≤ k → spec_maRank.f k l a = some r) ∧ (∃ K, ∀ k, K ≤ k → slices_Index_int_int.f k l a = some r) ∧ 0 ≤ r ∧ r < l.length := by
  have key : ∀ d i, i + d = l.length → a ∈ l.drop i → ∃ r : Int, (∃ K, ∀ k, K ≤ k → spec_maRank.l0 k l a (i : Int) = some r) ∧ (∃ K, ∀ k, K ≤ k → slices_Index_int_int.l0 k l a (l.length : Int) (i : Int) = some r) ∧ 0 ≤ r ∧ r < l.length := by
    intro d
    induction d with
    | zero =>
      intro i hi hm
      rw [List.drop_of_length_le (by omega)] at hm
      simp at hm
    | succ d ih =>
      intro i hi hm
      have hlt : i < l.length := by omega
      by_cases h1 : l[i] = a
      · refine ⟨(i : Int), ev_suc 0 fun k _ => ?_, ev_suc 0 fun k _ => ?_, by omega, by omega⟩
        · simp only [spec_maRank.l0]
          rw [if_pos (by omega), if_pos (by omega), rd_nat l i hlt, if_pos h1]
        · simp only [slices_Index_int_int.l0]
          rw [if_pos (by omega), if_pos (by omega), if_pos (by omega), rd_nat l i hlt, if_pos h1.symm]
      · rw [List.drop_eq_getElem_cons hlt] at hm
        have hm2 := (List.mem_cons.1 hm).resolve_left (fun h => h1 h.symm)
        obtain ⟨r, ⟨K1, h2⟩, ⟨K2, h3⟩, h4⟩ := ih (i + 1) (by omega) hm2
        refine ⟨r, ev_suc K1 fun k hk => ?_, ev_suc K2 fun k hk => ?_, h4⟩
        · simp only [spec_maRank.l0]
          rw [if_pos (by omega), if_pos (by omega), rd_nat l i hlt, if_neg h1, w64s (by omega)]
          exact h2 k hk
        · simp only [slices_Index_int_int.l0]
          rw [if_pos (by omega), if_pos (by omega), if_pos (by omega), rd_nat l i hlt, if_neg (fun h => h1 h.symm), w64s (by omega)]
          exact h3 k hk
  exact key l.length 0 (by omega) (by simpa using ha)
/-- As many different numbers as there are below n are all of them. -/
theorem pigeon : ∀ (n : Nat) (l : List Int), l.Nodup → (∀ x ∈ l, 0 ≤ x ∧ x < (n : Int)) → l.length ≤ n := by
  intro n
  induction n with
  | zero =>
    intro l _ h
    cases l with
    | nil => simp
    | cons x r => have := h x (List.mem_cons_self); omega
  | succ n ih =>
    intro l hn h
    have h2 := ih (l.erase (n : Int)) (hn.erase _) (fun x hx => by
      have h3 := (List.Nodup.mem_erase_iff hn).1 hx
      have h4 := h x h3.2
      have h5 := h3.1
      omega)
    by_cases hm : (n : Int) ∈ l
    · rw [List.length_erase_of_mem hm] at h2
      omega
    · rw [List.erase_of_not_mem hm] at h2
      omega
theorem match_all {l : List Int} {n : Nat} (h : isMatchP l (n : Int)) (j : Int) (h0 : 0 ≤ j) (h1 : j < (n : Int)) : j ∈ l := by
  obtain ⟨h2, h3, h4⟩ := h
  apply Classical.byContradiction
  intro hn
  have h5 := pigeon n (j :: l) (List.nodup_cons.2 ⟨hn, h4⟩) (fun x hx => by
    rcases List.mem_cons.1 hx with rfl | hx
    · exact ⟨h0, h1⟩
    · exact h3 x hx)
  simp only [List.length_cons] at h5
  omega
theorem swapTo_mem (m : List Int) : ∀ i, i ≤ m.length → ∀ z ∈ swapTo m i, 0 ≤ z ∧ z < (m.length : Int) := by
  intro i
  induction i with
  | zero =>
    intro _ z hz
    simp only [swapTo, List.mem_replicate] at hz
    omega
  | succ i ih =>
    intro hi z hz
    simp only [swapTo] at hz
    rcases List.mem_or_eq_of_mem_set hz with h | rfl
    · exact ih (by omega) z h
    · omega
/-- Both find the same pairs. -/
theorem blocking_both (a b : List (List Int)) (m : List Int) (n : Nat) (hn : n ≤ 7) (hal : a.length = n) (hbl : b.length = n) (hml : m.length = n) (ha : ∀ x ∈ a, isMatchP x (n : Int)) (hb : ∀ x ∈ b, isMatchP x (n : Int)) (hm : isMatchP m (n : Int)) : ∃ g : List (List Int), (∃ K, ∀ k, K ≤ k → spec_maBlocking.f k a b m = some g) ∧ (∃ K, ∀ k, K ≤ k → impl_blockingPairs.f k a b m = some g) ∧ g.length ≤ 49 ∧ ∀ x ∈ g, x.length ≤ 2 := by
  obtain ⟨⟨KS, hS⟩, ⟨KT, hT⟩⟩ := swap_ev m (by omega) (by rw [hml]; exact hm)
  have hsl := swapTo_length m m.length
  have hsm := swapTo_mem m m.length (Nat.le_refl _)
  generalize swapTo m m.length = s at *
  have key : ∀ d i, i + d = n → ∀ out : List (List Int), out.length ≤ 7 * i → (∀ x ∈ out, x.length ≤ 2) → ∃ g : List (List Int), (∃ K, ∀ k, K ≤ k → spec_maBlocking.l0 k a b m s out (a.length : Int) (i : Int) = some g) ∧ (∃ K, ∀ k, K ≤ k → impl_blockingPairs.l0 k a b m out s (a.length : Int) (i : Int) = some g) ∧ g.length ≤ 49 ∧ ∀ x ∈ g, x.length ≤ 2 := by
    intro d
    induction d with
    | zero =>
      intro i hi out ho hx
      refine ⟨out, ev_suc 0 fun k _ => ?_, ev_suc 0 fun k _ => ?_, by omega, hx⟩
      · simp only [spec_maBlocking.l0]; rw [if_neg (by omega)]
      · simp only [impl_blockingPairs.l0]; rw [if_neg (by omega)]
    | succ d ih =>
      intro i hi out ho hxo
      have hia : i < a.length := by omega
      have him : i < m.length := by omega
      have hai := ha _ (List.getElem_mem hia)
      have hmi := hm.2.1 _ (List.getElem_mem him)
      have inner : ∀ e j, j + e = n → ∀ out : List (List Int), out.length ≤ 7 * i + j → (∀ x ∈ out, x.length ≤ 2) → ∃ g : List (List Int), (∃ K, ∀ k, K ≤ k → spec_maBlocking.l1 k a b m s out (i : Int) (a.length : Int) (i : Int) (b.length : Int) (j : Int) = some g) ∧ (∃ K, ∀ k, K ≤ k → impl_blockingPairs.l1 k a b m out s (i : Int) (a.length : Int) (i : Int) (b.length : Int) (j : Int) = some g) ∧ g.length ≤ 49 ∧ ∀ x ∈ g, x.length ≤ 2 := by
        intro e
        induction e with
        | zero =>
          intro j hj out ho hx
          obtain ⟨g, ⟨K1, h1⟩, ⟨K2, h2⟩, h3⟩ := ih (i + 1) (by omega) out (by omega) hx
          refine ⟨g, ev_suc K1 fun k hk => ?_, ev_suc K2 fun k hk => ?_, h3⟩
          · simp only [spec_maBlocking.l1]
            rw [if_neg (by omega), w64s (by omega)]
            exact h1 k hk
          · simp only [impl_blockingPairs.l1]
            rw [if_neg (by omega), w64s (by omega)]
            exact h2 k hk
        | succ e ihe =>
          intro j hj out ho hx
          have hjb : j < b.length := by omega
          have hjs : j < s.length := by omega
          have hbj := hb _ (List.getElem_mem hjb)
          have hsj := hsm _ (List.getElem_mem hjs)
          obtain ⟨r1, ⟨A1, e1⟩, ⟨B1, f1⟩, g1⟩ := rank_both a[i] (by have := hai.1; omega) (j : Int) (match_all hai _ (by omega) (by omega))
          obtain ⟨r2, ⟨A2, e2⟩, ⟨B2, f2⟩, g2⟩ := rank_both a[i] (by have := hai.1; omega) m[i] (match_all hai _ hmi.1 hmi.2)
          obtain ⟨r3, ⟨A3, e3⟩, ⟨B3, f3⟩, g3⟩ := rank_both b[j] (by have := hbj.1; omega) (i : Int) (match_all hbj _ (by omega) (by omega))
          obtain ⟨r4, ⟨A4, e4⟩, ⟨B4, f4⟩, g4⟩ := rank_both b[j] (by have := hbj.1; omega) s[j] (match_all hbj _ (by omega) (by omega))
          obtain ⟨g, ⟨K1, h1⟩, ⟨K2, h2⟩, h3⟩ := ihe (j + 1) (by omega) out (by omega) hx
          obtain ⟨g', ⟨K3, h4⟩, ⟨K4, h5⟩, h6⟩ := ihe (j + 1) (by omega) (out ++ [[(i : Int), (j : Int)]]) (by rw [List.length_append, List.length_singleton]; omega) (fun x hx2 => by
            rcases List.mem_append.1 hx2 with h | h
            · exact hx x h
            · rw [List.mem_singleton.1 h]; simp)
          by_cases c1 : r1 < r2
          · by_cases c2 : r3 < r4
            · refine ⟨g', ev_suc (K3 + A1 + A2 + A3 + A4) fun k hk => ?_, ev_suc (K4 + B1 + B2 + B3 + B4) fun k hk => ?_, h6⟩
              · simp only [spec_maBlocking.l1]
                rw [if_pos (by omega), if_pos (by omega), if_pos (by omega), rdLL_nat a i hia, e1 k (by omega)]
                simp only [Option.bind_some]
                rw [if_pos (by omega), rd_nat m i him, e2 k (by omega)]
                simp only [Option.bind_some]
                rw [if_pos c1, if_pos (by omega), if_pos (by omega), rdLL_nat b j hjb, e3 k (by omega)]
                simp only [Option.bind_some]
                rw [if_pos (by omega), rd_nat s j hjs, e4 k (by omega)]
                simp only [Option.bind_some]
                rw [if_pos c2, if_pos (by omega), w64s (by omega)]
                exact h4 k (by omega)
              · simp only [impl_blockingPairs.l1]
                rw [if_pos (by omega), if_pos (by omega), if_pos (by omega), rdLL_nat a i hia, f1 k (by omega)]
                simp only [Option.bind_some]
                rw [if_pos (by omega), rd_nat m i him, f2 k (by omega)]
                simp only [Option.bind_some]
                rw [if_pos c1, if_pos (by omega), if_pos (by omega), rdLL_nat b j hjb, f3 k (by omega)]
                simp only [Option.bind_some]
                rw [if_pos (by omega), rd_nat s j hjs, f4 k (by omega)]
                simp only [Option.bind_some]
                rw [if_pos c2, if_pos (by omega), w64s (by omega)]
                exact h5 k (by omega)
            · refine ⟨g, ev_suc (K1 + A1 + A2 + A3 + A4) fun k hk => ?_, ev_suc (K2 + B1 + B2 + B3 + B4) fun k hk => ?_, h3⟩
              · simp only [spec_maBlocking.l1]
                rw [if_pos (by omega), if_pos (by omega), if_pos (by omega), rdLL_nat a i hia, e1 k (by omega)]
                simp only [Option.bind_some]
                rw [if_pos (by omega), rd_nat m i him, e2 k (by omega)]
                simp only [Option.bind_some]
                rw [if_pos c1, if_pos (by omega), if_pos (by omega), rdLL_nat b j hjb, e3 k (by omega)]
                simp only [Option.bind_some]
                rw [if_pos (by omega), rd_nat s j hjs, e4 k (by omega)]
                simp only [Option.bind_some]
                rw [if_neg c2, w64s (by omega)]
                exact h1 k (by omega)
              · simp only [impl_blockingPairs.l1]
                rw [if_pos (by omega), if_pos (by omega), if_pos (by omega), rdLL_nat a i hia, f1 k (by omega)]
                simp only [Option.bind_some]
                rw [if_pos (by omega), rd_nat m i him, f2 k (by omega)]
                simp only [Option.bind_some]
                rw [if_pos c1, if_pos (by omega), if_pos (by omega), rdLL_nat b j hjb, f3 k (by omega)]
                simp only [Option.bind_some]
                rw [if_pos (by omega), rd_nat s j hjs, f4 k (by omega)]
                simp only [Option.bind_some]
                rw [if_neg c2, w64s (by omega)]
                exact h2 k (by omega)
          · refine ⟨g, ev_suc (K1 + A1 + A2) fun k hk => ?_, ev_suc (K2 + B1 + B2) fun k hk => ?_, h3⟩
            · simp only [spec_maBlocking.l1]
              rw [if_pos (by omega), if_pos (by omega), if_pos (by omega), rdLL_nat a i hia, e1 k (by omega)]
              simp only [Option.bind_some]
              rw [if_pos (by omega), rd_nat m i him, e2 k (by omega)]
              simp only [Option.bind_some]
              rw [if_neg c1, w64s (by omega)]
              exact h1 k (by omega)
            · simp only [impl_blockingPairs.l1]
              rw [if_pos (by omega), if_pos (by omega), if_pos (by omega), rdLL_nat a i hia, f1 k (by omega)]
              simp only [Option.bind_some]
              rw [if_pos (by omega), rd_nat m i him, f2 k (by omega)]
              simp only [Option.bind_some]
              rw [if_neg c1, w64s (by omega)]
              exact h2 k (by omega)
      obtain ⟨g, ⟨K1, h1⟩, ⟨K2, h2⟩, h3⟩ := inner n 0 (by omega) out (by omega) hxo
      refine ⟨g, ev_suc K1 fun k hk => ?_, ev_suc K2 fun k hk => ?_, h3⟩
      · simp only [spec_maBlocking.l0]
        rw [if_pos (by omega)]
        exact h1 k hk
      · simp only [impl_blockingPairs.l0]
        rw [if_pos (by omega)]
        exact h2 k hk
  obtain ⟨g, ⟨K1, h1⟩, ⟨K2, h2⟩, h3⟩ := key n 0 (by omega) [] (by simp) (by simp)
  refine ⟨g, ⟨KS + K1, fun k hk => ?_⟩, ⟨KT + K2, fun k hk => ?_⟩, h3⟩
  · unfold spec_maBlocking.f
    rw [hS k (by omega)]
    exact h1 k (by omega)
  · unfold impl_blockingPairs.f
    rw [hT k (by omega)]
    exact h2 k (by omega)
def sidesOk (a b : List (List Int)) : Bool := prefsOk a && (prefsOk b && decide (a.length = b.length))
theorem sides_both (a b : List (List Int)) (ha : a.length ≤ 1048576) (hxa : ∀ x ∈ a, x.length ≤ 1048576) (hb : b.length ≤ 1048576) (hxb : ∀ x ∈ b, x.length ≤ 1048576) : (∃ K, ∀ k, K ≤ k → spec_maBoth.f k a b = some (sidesOk a b)) ∧ ∃ K, ∀ k, K ≤ k → impl_areSides.f k a b = some (sidesOk a b) := by
  obtain ⟨K1, h1⟩ := maPreferences_ev a ha hxa
  obtain ⟨K2, h2⟩ := maPreferences_ev b hb hxb
  obtain ⟨K3, h3⟩ := implArePreferences_ev a ha hxa
  obtain ⟨K4, h4⟩ := implArePreferences_ev b hb hxb
  have he : ((a.length : Int) == (b.length : Int)) = decide (a.length = b.length) := by
    exact Bool.eq_iff_iff.2 (by simp only [beq_iff_eq, decide_eq_true_eq]; omega)
  constructor
  · refine ⟨K1 + K2, fun k hk => ?_⟩
    unfold spec_maBoth.f sidesOk
    rw [h1 k (by omega)]
    simp only [Option.bind_some]
    cases prefsOk a with
    | false => rw [if_neg (by simp), Bool.false_and]
    | true =>
      rw [if_pos rfl, h2 k (by omega)]
      simp only [Option.bind_some]
      cases prefsOk b with
      | false => rw [if_neg (by simp), Bool.false_and, Bool.and_false]
      | true => rw [if_pos rfl, he, Bool.true_and, Bool.true_and]
  · refine ⟨K3 + K4, fun k hk => ?_⟩
    unfold impl_areSides.f sidesOk
    rw [h3 k (by omega)]
    simp only [Option.bind_some]
    cases prefsOk a with
    | false => rw [if_neg (by simp), Bool.false_and]
    | true =>
      rw [if_pos rfl, h4 k (by omega)]
      simp only [Option.bind_some]
      cases prefsOk b with
      | false => rw [if_neg (by simp), Bool.false_and, Bool.and_false]
      | true => rw [if_pos rfl, he, Bool.true_and, Bool.true_and]
/-- All matches that begin with a list, in lexicographic order. -/
def allFrom (n : Nat) : Nat → List Int → List (List Int)
  | 0, p => [p]
  | d + 1, p => (List.range n).flatMap fun (j : Nat) => if (j : Int) ∈ p then [] else allFrom n d (p ++ [(j : Int)])
theorem flatMap_le {α β : Type} (g : α → List β) (B : Nat) : ∀ l : List α, (∀ x ∈ l, (g x).length ≤ B) → (l.flatMap g).length ≤ l.length * B := by
  intro l
  induction l with
  | nil => intro _; simp
  | cons x l ih =>
    intro h
    have h1 := h x (List.mem_cons_self)
    have h2 := ih (fun y hy => h y (List.mem_cons_of_mem _ hy))
    rw [List.flatMap_cons, List.length_append, List.length_cons, Nat.add_mul, Nat.one_mul]
    omega
theorem allFrom_len (n : Nat) (hn : n ≤ 7) : ∀ d p, (allFrom n d p).length ≤ 7 ^ d := by
  intro d
  induction d with
  | zero => intro p; simp [allFrom]
  | succ d ih =>
    intro p
    have h := flatMap_le (fun (j : Nat) => if (j : Int) ∈ p then [] else allFrom n d (p ++ [(j : Int)])) (7 ^ d) (List.range n) (fun j _ => by
      by_cases g : (j : Int) ∈ p
      · rw [if_pos g]; simp
      · rw [if_neg g]; exact ih _)
    rw [List.length_range] at h
    simp only [allFrom]
    rw [Nat.pow_succ, Nat.mul_comm]
    exact Nat.le_trans h (Nat.mul_le_mul_right _ hn)
structure Part (n : Nat) (p : List Int) : Prop where
  nd : p.Nodup
  lt : ∀ x ∈ p, 0 ≤ x ∧ x < (n : Int)
theorem Part.snoc {n : Nat} {p : List Int} (h : Part n p) {j : Nat} (hj : j < n) (hp : ¬ (j : Int) ∈ p) : Part n (p ++ [(j : Int)]) := by
  refine ⟨?_, fun x hx => ?_⟩
  · rw [List.nodup_append]
    refine ⟨h.nd, by simp, fun a ha b hb => ?_⟩
    rw [List.mem_singleton] at hb
    subst hb
    exact fun e => hp (e ▸ ha)
  · rcases List.mem_append.1 hx with hx | hx
    · exact h.lt x hx
    · rw [List.mem_singleton] at hx
      omega
theorem allFrom_mem (n : Nat) : ∀ d p, p.length + d = n → Part n p → ∀ m ∈ allFrom n d p, m.length = n ∧ Part n m := by
  intro d
  induction d with
  | zero =>
    intro p hp h m hm
    simp only [allFrom, List.mem_singleton] at hm
    subst hm
    exact ⟨by omega, h⟩
  | succ d ih =>
    intro p hp h m hm
    simp only [allFrom] at hm
    obtain ⟨j, hj, hm⟩ := List.mem_flatMap.1 hm
    by_cases g : (j : Int) ∈ p
    · rw [if_pos g] at hm; cases hm
    · rw [if_neg g] at hm
      exact ih _ (by rw [List.length_append, List.length_singleton]; omega) (h.snoc (List.mem_range.1 hj) g) m hm
theorem allFrom_all (n : Nat) : ∀ d p m, p.length + d = n → m.length = n → Part n m → m.take p.length = p → m ∈ allFrom n d p := by
  intro d
  induction d with
  | zero =>
    intro p m hp hl h ht
    rw [List.take_of_length_le (by omega)] at ht
    simp only [allFrom, List.mem_singleton]
    exact ht
  | succ d ih =>
    intro p m hp hl h ht
    have hlt : p.length < m.length := by omega
    have hx := h.lt m[p.length] (List.getElem_mem hlt)
    obtain ⟨j, hj⟩ := Int.eq_ofNat_of_zero_le hx.1
    simp only [allFrom]
    refine List.mem_flatMap.2 ⟨j, List.mem_range.2 (by omega), ?_⟩
    have htk : m.take (p.length + 1) = p ++ [(j : Int)] := by rw [List.take_succ_eq_append_getElem hlt, ht, ← hj]
    have hnp : ¬ (j : Int) ∈ p := by
      intro hm
      have h1 : (p ++ [(j : Int)]).Nodup := by rw [← htk]; exact (List.take_sublist _ _).nodup h.nd
      rw [List.nodup_append] at h1
      exact h1.2.2 _ hm _ (by simp) rfl
    rw [if_neg hnp]
    exact ih _ _ (by rw [List.length_append, List.length_singleton]; omega) hl h (by rw [List.length_append, List.length_singleton]; exact htk)
theorem nodup_len : ∀ (l p : List Int), l.Nodup → (∀ x ∈ l, x ∈ p) → l.length ≤ p.length := by
  intro l
  induction l with
  | nil => intro p _ _; simp
  | cons x l ih =>
    intro p h1 h2
    rw [List.nodup_cons] at h1
    have hx := h2 x (List.mem_cons_self)
    have h3 := ih (p.erase x) h1.2 (fun y hy => (List.mem_erase_of_ne (fun e : y = x => h1.1 (by rw [← e]; exact hy))).2 (h2 y (List.mem_cons_of_mem _ hy)))
    rw [List.length_erase_of_mem hx] at h3
    have := List.length_pos_of_mem hx
    rw [List.length_cons]
    omega
theorem l1Own_eq (l : List Int) (hl : l.length ≤ 1048576) : spec_l1Own.f l = some l := by
  unfold spec_l1Own.f
  simp only [Option.bind_some, List.length_nil, List.nil_append]
  rw [if_pos (by omega)]
theorem maAll_ev (n : Nat) (hn : n ≤ 7) : ∀ d p, p.length + d = n → ∃ K, ∀ k, K ≤ k → spec_maAll.f k p (n : Int) = some (allFrom n d p) := by
  intro d
  induction d with
  | zero =>
    intro p hp
    refine ev_suc 0 fun k _ => ?_
    simp only [spec_maAll.f]
    rw [if_pos (by omega), l1Own_eq p (by omega)]
    rfl
  | succ d ih =>
    intro p hp
    have hp7 : 7 ^ d ≤ 823543 := Nat.le_trans (Nat.pow_le_pow_right (by omega) (show d ≤ 7 by omega)) (by decide)
    have hlen : ∀ i, i ≤ n → (((List.range n).take i).flatMap fun (j : Nat) => if (j : Int) ∈ p then [] else allFrom n d (p ++ [(j : Int)])).length ≤ 10000000 := by
      intro i hi
      have h := flatMap_le (fun (j : Nat) => if (j : Int) ∈ p then [] else allFrom n d (p ++ [(j : Int)])) 823543 ((List.range n).take i) (fun j _ => by
        by_cases g : (j : Int) ∈ p
        · rw [if_pos g]; simp
        · rw [if_neg g]; exact Nat.le_trans (allFrom_len n hn d _) hp7)
      rw [List.length_take, List.length_range] at h
      have := Nat.mul_le_mul_right 823543 (show min i n ≤ 7 by omega)
      omega
    have h := ev_loop (F := fun k i => spec_maAll.l0 k p (n : Int) (((List.range n).take i).flatMap fun (j : Nat) => if (j : Int) ∈ p then [] else allFrom n d (p ++ [(j : Int)])) (i : Int)) (n := n) (res := fun _ => allFrom n (d + 1) p)
      (ev_suc 0 fun k _ => by
        simp only [spec_maAll.l0]
        rw [if_neg (by omega), List.take_of_length_le (by simp)]
        rfl)
      (fun i hi K hK => by
        obtain ⟨K1, h1⟩ := l1Has_ev p (by omega) (i : Int)
        have htk : (List.range n).take (i + 1) = (List.range n).take i ++ [i] := by rw [List.take_succ_eq_append_getElem (by simpa using hi)]; simp
        rw [htk, List.flatMap_append, List.flatMap_cons, List.flatMap_nil, List.append_nil] at hK
        by_cases g : (i : Int) ∈ p
        · rw [if_pos g, List.append_nil] at hK
          refine ev_suc (K + K1) fun k hk => ?_
          simp only [spec_maAll.l0]
          rw [if_pos (by omega), h1 k (by omega)]
          simp only [Option.bind_some]
          rw [if_pos (decide_eq_true g), w64s (by omega)]
          exact hK k (by omega)
        · rw [if_neg g] at hK
          obtain ⟨K2, h2⟩ := ih (p ++ [(i : Int)]) (by rw [List.length_append, List.length_singleton]; omega)
          have l1 := hlen i (by omega)
          have l2 := Nat.le_trans (allFrom_len n hn d (p ++ [(i : Int)])) hp7
          refine ev_suc (K + K1 + K2) fun k hk => ?_
          simp only [spec_maAll.l0]
          rw [if_pos (by omega), h1 k (by omega)]
          simp only [Option.bind_some]
          rw [if_neg (by simpa using g), l1Own_eq p (by omega)]
          simp only [Option.bind_some]
          rw [if_pos (by omega), h2 k (by omega)]
          simp only [Option.bind_some]
          rw [if_pos (by omega), w64s (by omega)]
          exact hK k (by omega)) 0 (Nat.zero_le _)
    obtain ⟨K, h⟩ := h
    refine ev_suc K fun k hk => ?_
    simp only [spec_maAll.f]
    rw [if_neg (by omega)]
    have := h k hk
    simpa using this
def foldO {σ α : Type} (step : σ → α → Option σ) : σ → List α → Option σ
  | s, [] => some s
  | s, a :: l => (step s a).bind fun s' => foldO step s' l
theorem foldO_append {σ α : Type} (step : σ → α → Option σ) : ∀ (l l2 : List α) (s : σ), foldO step s (l ++ l2) = (foldO step s l).bind fun s' => foldO step s' l2 := by
  intro l
  induction l with
  | nil => intro l2 s; rfl
  | cons a l ih =>
    intro l2 s
    simp only [List.cons_append, foldO]
    cases step s a with
    | none => rfl
    | some s1 => exact ih l2 s1
/-- The filling calls the function for all matches, in their order. -/
theorem fill_all {σ : Type} (step : σ → List Int → Option σ) (n : Nat) : ∀ (d : Nat) (M : List Int) (U : List Bool) (p : List Int), M.length = n → U.length = n → p.length + d = n → M.take p.length = p → (∀ j, j < n → U.getD j false = decide ((j : Int) ∈ p)) →
    ∃ M' : List Int, M'.length = n ∧ M'.take p.length = p ∧ ∀ s, fillF step n d M U s = (foldO step s (allFrom n d p)).bind fun s' => some (M', U, s') := by
  intro d
  induction d with
  | zero =>
    intro M U p hM hU hp ht hu
    have hMp : M = p := by rw [← ht, List.take_of_length_le (by omega)]
    refine ⟨M, hM, ht, fun s => ?_⟩
    simp only [fillF, allFrom, foldO]
    rw [hMp]
    cases step s p <;> rfl
  | succ d ih =>
    intro M U p hM hU hp ht hu
    have key : ∀ e, e ≤ n → ∀ M1 : List Int, M1.length = n → M1.take p.length = p → ∃ M' : List Int, M'.length = n ∧ M'.take p.length = p ∧ ∀ s, fillK (fillF step n d) p.length n e M1 U s = (foldO step s (((List.range n).drop (n - e)).flatMap fun (j : Nat) => if (j : Int) ∈ p then [] else allFrom n d (p ++ [(j : Int)]))).bind fun s' => some (M', U, s') := by
      intro e
      induction e with
      | zero =>
        intro _ M1 h1 h2
        refine ⟨M1, h1, h2, fun s => ?_⟩
        rw [List.drop_of_length_le (by simp)]
        rfl
      | succ e ihe =>
        intro he M1 h1 h2
        have hlt : n - (e + 1) < (List.range n).length := by simp; omega
        rw [List.drop_eq_getElem_cons hlt, List.flatMap_cons, List.getElem_range, show n - (e + 1) + 1 = n - e from by omega]
        obtain ⟨kk, hkk⟩ : ∃ kk, kk = n - (e + 1) := ⟨_, rfl⟩
        have hu1 := hu kk (by omega)
        simp only [fillK]
        rw [← hkk]
        by_cases g : (kk : Int) ∈ p
        · rw [if_pos g, List.nil_append]
          have e1 : U.getD kk false = true := by rw [hu1]; exact decide_eq_true g
          simp only [e1, if_true]
          exact ihe (by omega) M1 h1 h2
        · rw [if_neg g]
          have e1 : U.getD kk false = false := by rw [hu1]; exact decide_eq_false g
          simp only [e1, Bool.false_eq_true, if_false]
          have hset : (M1.set p.length (kk : Int)).take (p ++ [(kk : Int)]).length = p ++ [(kk : Int)] := by
            rw [List.length_append, List.length_singleton, List.take_succ_eq_append_getElem (by rw [List.length_set]; omega), List.getElem_set_self, List.take_set_of_le (Nat.le_refl _), h2]
          obtain ⟨M2, m1, m2, m3⟩ := ih (M1.set p.length (kk : Int)) (U.set kk true) (p ++ [(kk : Int)]) (by rw [List.length_set]; exact h1) (by rw [List.length_set]; exact hU) (by rw [List.length_append, List.length_singleton]; omega) hset (fun j hj => by
            rw [List.getD_eq_getElem?_getD, List.getElem?_set]
            by_cases e1 : kk = j
            · subst e1
              rw [if_pos rfl, if_pos (by omega)]
              simp
            · rw [if_neg e1, ← List.getD_eq_getElem?_getD, hu j hj]
              refine decide_eq_decide.2 ?_
              rw [List.mem_append, List.mem_singleton]
              exact ⟨.inl, fun h => h.resolve_right (by omega)⟩)
          have m2' : M2.take p.length = p := by
            have h5 := congrArg (List.take p.length) m2
            rw [List.take_take, List.length_append, List.length_singleton, Nat.min_eq_left (by omega)] at h5
            rw [h5]
            simp
          have hback : (U.set kk true).set kk false = U := by
            rw [List.set_set]
            apply List.ext_getElem?
            intro i
            rw [List.getElem?_set]
            by_cases e2 : kk = i
            · subst e2
              have hkU : kk < U.length := by omega
              have h6 := e1
              rw [List.getD_eq_getElem?_getD, List.getElem?_eq_getElem hkU] at h6
              rw [if_pos rfl, if_pos hkU, List.getElem?_eq_getElem hkU]
              exact congrArg some h6.symm
            · rw [if_neg e2]
          obtain ⟨M3, n1, n2, n3⟩ := ihe (by omega) M2 m1 m2'
          refine ⟨M3, n1, n2, fun s => ?_⟩
          rw [m3 s, foldO_append]
          cases foldO step s (allFrom n d (p ++ [(kk : Int)])) with
          | none => rfl
          | some s1 =>
            simp only [Option.bind_some]
            rw [hback]
            exact n3 s1
    obtain ⟨M', h1, h2, h3⟩ := key n (Nat.le_refl _) M hM ht
    refine ⟨M', h1, h2, fun s => ?_⟩
    have h4 := h3 s
    rw [Nat.sub_self, List.drop_zero] at h4
    simp only [fillF, allFrom]
    rw [show n - (d + 1) = p.length from by omega]
    exact h4
theorem fill_start {σ : Type} (step : σ → List Int → Option σ) (n : Nat) (s : σ) : ∃ M' : List Int, fillF step n n (List.replicate n 0) (List.replicate n false) s = (foldO step s (allFrom n n [])).bind fun s' => some (M', List.replicate n false, s') := by
  obtain ⟨M', _, _, h⟩ := fill_all step n n (List.replicate n 0) (List.replicate n false) [] (by simp) (by simp) (by simp) (by simp) (fun j hj => by simp [List.getD_eq_getElem?_getD, List.getElem?_replicate, hj])
  exact ⟨M', h s⟩
theorem matchP_of {n : Nat} {m : List Int} (hl : m.length = n) (hp : Part n m) : isMatchP m (n : Int) := ⟨by omega, hp.lt, hp.nd⟩
/-- No pair blocks, as the reference tells it. -/
def NoBlock (a b : List (List Int)) (m : List Int) : Prop := ∃ g : List (List Int), (∃ K, ∀ k, K ≤ k → spec_maBlocking.f k a b m = some g) ∧ g.length = 0
open Classical in
/-- One more where no pair blocks. -/
noncomputable def cntOne (a b : List (List Int)) (s : Int) (m : List Int) : Int := if NoBlock a b m then s + 1 else s
theorem countStable_both (a b : List (List Int)) (hla : a.length ≤ 1048576) (hxa : ∀ x ∈ a, x.length ≤ 1048576) (hlb : b.length ≤ 1048576) (hxb : ∀ x ∈ b, x.length ≤ 1048576) : ∃ r : Int × Bool, (∃ K, ∀ k, K ≤ k → spec_CountStable.f k a b = some r) ∧ (∃ K, ∀ k, K ≤ k → impl_CountStable.f k a b = some r) ∧ r.2 = sidesOk a b ∧ (sidesOk a b = true → ∀ m, m.length = a.length → Part a.length m → NoBlock a b m → 1 ≤ r.1) ∧ (sidesOk a b = true → r.1 = (allFrom a.length a.length []).foldl (cntOne a b) 0) := by
  obtain ⟨⟨K1, h1⟩, K2, h2⟩ := sides_both a b hla hxa hlb hxb
  by_cases hc : sidesOk a b = true
  · have hs := hc
    unfold sidesOk at hs
    simp only [Bool.and_eq_true, decide_eq_true_eq] at hs
    obtain ⟨p1, p2, p3⟩ := hs
    obtain ⟨a1, a2, a3⟩ := (prefsOk_iff a).1 p1
    obtain ⟨b1, b2, b3⟩ := (prefsOk_iff b).1 p2
    obtain ⟨n, hn⟩ : ∃ n, n = a.length := ⟨_, rfl⟩
    obtain ⟨all, hall⟩ : ∃ all, all = allFrom n n [] := ⟨_, rfl⟩
    have hP0 : Part n [] := ⟨by simp, fun x hx => by cases hx⟩
    have hmem : ∀ m ∈ all, m.length = n ∧ Part n m := by rw [hall]; exact allFrom_mem n n [] (by simp) hP0
    have hlenAll : all.length ≤ 823543 := by rw [hall]; exact Nat.le_trans (allFrom_len n (by omega) n []) (Nat.le_trans (Nat.pow_le_pow_right (by omega) (show n ≤ 7 by omega)) (by decide))
    have hone : ∀ m ∈ all, ∃ g : List (List Int), (∃ K, ∀ k, K ≤ k → spec_maBlocking.f k a b m = some g) ∧ (∃ K, ∀ k, K ≤ k → impl_blockingPairs.f k a b m = some g) ∧ (g.length = 0 ↔ NoBlock a b m) := by
      intro m hm
      obtain ⟨g, ⟨K3, h3⟩, h4, _⟩ := blocking_both a b m n (by omega) hn.symm (by omega) (hmem m hm).1 (fun x hx => by rw [hn]; exact a1 x hx) (fun x hx => by have := b1 x hx; rw [hn, p3]; exact this) (matchP_of (hmem m hm).1 (hmem m hm).2)
      refine ⟨g, ⟨K3, h3⟩, h4, fun h => ⟨g, ⟨K3, h3⟩, h⟩, fun h => ?_⟩
      obtain ⟨g2, ⟨K5, h5⟩, h6⟩ := h
      have e1 := h3 (K3 + K5) (by omega)
      rw [h5 (K3 + K5) (by omega)] at e1
      injection e1 with e1
      rw [← e1]; exact h6
    have hcb : ∀ (l : List (List Int)) (s : Int), 0 ≤ s → s ≤ l.foldl (cntOne a b) s ∧ l.foldl (cntOne a b) s ≤ s + (l.length : Int) ∧ ∀ m ∈ l, NoBlock a b m → s + 1 ≤ l.foldl (cntOne a b) s := by
      intro l
      induction l with
      | nil => intro s hs; exact ⟨by simp, by simp, fun m hm => by cases hm⟩
      | cons x l ih =>
        intro s hs
        have h8 : s ≤ cntOne a b s x ∧ cntOne a b s x ≤ s + 1 ∧ (NoBlock a b x → cntOne a b s x = s + 1) := by
          unfold cntOne
          by_cases g : NoBlock a b x
          · rw [if_pos g]; exact ⟨by omega, by omega, fun _ => rfl⟩
          · rw [if_neg g]; exact ⟨by omega, by omega, fun h => absurd h g⟩
        obtain ⟨i1, i2, i3⟩ := ih (cntOne a b s x) (by omega)
        rw [List.foldl_cons]
        refine ⟨by omega, by rw [List.length_cons]; omega, fun m hm hb => ?_⟩
        rcases List.mem_cons.1 hm with rfl | hm
        · have := h8.2.2 hb; omega
        · have := i3 m hm hb; omega
    obtain ⟨KA, hA⟩ := maAll_ev n (by omega) n [] (by simp)
    rw [← hall] at hA
    obtain ⟨c1, c2, c3⟩ := hcb all 0 (by omega)
    refine ⟨(all.foldl (cntOne a b) 0, true), ?_, ?_, hc.symm, fun _ m m1 m2 m3 => by have := c3 m (by rw [hall, hn]; exact allFrom_all a.length a.length [] m (by simp) m1 m2 (by simp)) m3; show 1 ≤ all.foldl (cntOne a b) 0; omega, fun _ => by rw [hall, hn]⟩
    · have h := ev_loop (F := fun k i => spec_CountStable.l0 k a b ((all.take i).foldl (cntOne a b) 0) all (all.length : Int) (i : Int)) (n := all.length) (res := fun _ => (all.foldl (cntOne a b) 0, true))
        (ev_suc 0 fun k _ => by simp only [spec_CountStable.l0]; rw [if_neg (by omega), List.take_of_length_le (Nat.le_refl _)])
        (fun i hi K hK => by
          obtain ⟨g, ⟨K3, h3⟩, _, h5⟩ := hone all[i] (List.getElem_mem hi)
          have hstep : (all.take (i + 1)).foldl (cntOne a b) 0 = cntOne a b ((all.take i).foldl (cntOne a b) 0) all[i] := by rw [List.take_succ_eq_append_getElem hi, List.foldl_append]; rfl
          rw [hstep] at hK
          obtain ⟨d1, d2, _⟩ := hcb (all.take i) 0 (by omega)
          rw [List.length_take] at d2
          refine ev_suc (K + K3) fun k hk => ?_
          simp only [spec_CountStable.l0]
          rw [if_pos (by omega), if_pos (by omega), if_pos (by omega), rdLL_nat all i hi, h3 k (by omega)]
          simp only [Option.bind_some]
          rw [w64s (by omega)]
          by_cases g0 : g.length = 0
          · have e : cntOne a b ((all.take i).foldl (cntOne a b) 0) all[i] = (all.take i).foldl (cntOne a b) 0 + 1 := by unfold cntOne; rw [if_pos (h5.1 g0)]
            rw [e] at hK
            rw [if_pos (by omega), w64 (by omega) (by omega)]
            exact hK k (by omega)
          · have e : cntOne a b ((all.take i).foldl (cntOne a b) 0) all[i] = (all.take i).foldl (cntOne a b) 0 := by unfold cntOne; rw [if_neg (fun h => g0 (h5.2 h))]
            rw [e] at hK
            rw [if_neg (by omega)]
            exact hK k (by omega)) 0 (Nat.zero_le _)
      obtain ⟨K, h⟩ := h
      refine ⟨K1 + KA + K, fun k hk => ?_⟩
      unfold spec_CountStable.f
      rw [h1 k (by omega)]
      simp only [Option.bind_some]
      rw [if_pos hc, ← hn, hA k (by omega)]
      simp only [Option.bind_some]
      have := h k (by omega)
      simpa using this
    · have hf : ∀ (l : List (List Int)), (∀ m ∈ l, m ∈ all) → ∀ s : Int, 0 ≤ s → s + (l.length : Int) ≤ 1000000 → ∃ K, ∀ k, K ≤ k → foldO (impl_CountStable.step k a b) s l = some (l.foldl (cntOne a b) s) := by
        intro l
        induction l with
        | nil => intro _ s _ _; exact ⟨0, fun k _ => rfl⟩
        | cons x l ih =>
          intro hl s hs hs2
          rw [List.length_cons] at hs2
          obtain ⟨g, _, ⟨K3, h3⟩, h5⟩ := hone x (hl x (List.mem_cons_self))
          have h8 : s ≤ cntOne a b s x ∧ cntOne a b s x ≤ s + 1 := by
            unfold cntOne
            by_cases g : NoBlock a b x
            · rw [if_pos g]; omega
            · rw [if_neg g]; omega
          obtain ⟨K4, h4⟩ := ih (fun m hm => hl m (List.mem_cons_of_mem _ hm)) (cntOne a b s x) (by omega) (by omega)
          refine ⟨K3 + K4, fun k hk => ?_⟩
          have hst : impl_CountStable.step k a b s x = some (cntOne a b s x) := by
            unfold impl_CountStable.step
            rw [h3 k (by omega)]
            simp only [Option.bind_some]
            unfold cntOne
            by_cases g0 : g.length = 0
            · rw [if_pos (by omega), if_pos (h5.1 g0), w64 (by omega) (by omega)]
            · rw [if_neg (by omega), if_neg (fun h => g0 (h5.2 h))]
          simp only [foldO, List.foldl_cons]
          rw [hst]
          exact h4 k (by omega)
      obtain ⟨K, hK⟩ := hf all (fun m hm => hm) 0 (by omega) (by omega)
      refine ⟨K2 + K, fun k hk => ?_⟩
      unfold impl_CountStable.f
      rw [h2 k (by omega)]
      simp only [Option.bind_some]
      rw [if_pos hc, if_pos hla]
      obtain ⟨M', h⟩ := fill_start (impl_CountStable.step k a b) a.length 0
      rw [h, ← hn, ← hall, hK k (by omega)]
      rfl
  · refine ⟨(0, false), ⟨K1, fun k hk => ?_⟩, ⟨K2, fun k hk => ?_⟩, (Bool.eq_false_iff.mpr hc).symm, fun h => absurd h hc, fun h => absurd h hc⟩
    · unfold spec_CountStable.f
      rw [h1 k hk]
      simp only [Option.bind_some]
      rw [if_neg hc]
    · unfold impl_CountStable.f
      rw [h2 k hk]
      simp only [Option.bind_some]
      rw [if_neg hc]
/-- Pigeonhole over Nat. -/
theorem gs_pigeon : ∀ (n : Nat) (l : List Nat), l.Nodup → (∀ x ∈ l, x < n) → l.length ≤ n := by
  intro n
  induction n with
  | zero =>
    intro l _ h
    cases l with
    | nil => simp
    | cons x l => exact absurd (h x (by simp)) (by omega)
  | succ n ih =>
    intro l hd h
    by_cases hn : n ∈ l
    · have h1 := ih (l.erase n) (hd.erase n) (fun x hx => by
        have h2 := (List.Nodup.mem_erase_iff hd).1 hx
        have := h x h2.2
        omega)
      rw [List.length_erase_of_mem hn] at h1
      omega
    · have := ih l hd (fun x hx => by
        have h2 := h x hx
        have : x ≠ n := fun e => hn (e ▸ hx)
        omega)
      omega
/-- The two sides: a truck's shovel at a rank, a shovel's rank for a truck, a truck's rank for a shovel. -/
structure Sides where
  n : Nat
  pa : Nat → Nat → Nat
  ra : Nat → Nat → Nat
  rb : Nat → Nat → Nat
  pa_lt : ∀ i r, i < n → r < n → pa i r < n
  ra_lt : ∀ i k, i < n → k < n → ra i k < n
  ra_pa : ∀ i r, i < n → r < n → ra i (pa i r) = r
  pa_ra : ∀ i k, i < n → k < n → pa i (ra i k) = k
  rb_inj : ∀ k i j, k < n → i < n → j < n → rb k i = rb k j → i = j
/-- A match without blocking pairs. -/
structure Stab (S : Sides) (mu : Nat → Nat) : Prop where
  lt : ∀ i, i < S.n → mu i < S.n
  inj : ∀ i j, i < S.n → j < S.n → mu i = mu j → i = j
  none : ∀ i j, i < S.n → j < S.n → S.ra i (mu j) < S.ra i (mu i) → S.rb (mu j) i < S.rb (mu j) j → False
/-- Where the asking stands: how often each truck was refused, whom each shovel holds. -/
structure Asked (S : Sides) (p : Nat → Nat) (h : Nat → Option Nat) : Prop where
  le : ∀ i, i < S.n → p i ≤ S.n
  held : ∀ k i, k < S.n → h k = some i → i < S.n ∧ p i < S.n ∧ S.pa i (p i) = k
  better : ∀ i r, i < S.n → r < p i → ∃ j, h (S.pa i r) = some j ∧ S.rb (S.pa i r) j < S.rb (S.pa i r) i
  best : ∀ mu, Stab S mu → ∀ i, i < S.n → p i ≤ S.ra i (mu i)
theorem asked_start (S : Sides) : Asked S (fun _ => 0) (fun _ => none) where
  le := fun i _ => Nat.zero_le _
  held := fun k i _ h => by cases h
  better := fun i r _ h => by omega
  best := fun mu _ i _ => Nat.zero_le _
/-- A truck that no shovel holds has somebody to ask. -/
theorem asked_more {S : Sides} {p h} (H : Asked S p h) {i : Nat} (hi : i < S.n) (hf : ∀ k, k < S.n → h k ≠ some i) : p i < S.n := by
  rcases Nat.lt_or_ge (p i) S.n with h1 | h1
  · exact h1
  exfalso
  have hp : p i = S.n := by have := H.le i hi; omega
  have hall : ∀ k, k < S.n → ∃ j, h k = some j ∧ j < S.n ∧ j ≠ i := by
    intro k hk
    obtain ⟨j, hj, _⟩ := H.better i (S.ra i k) hi (by rw [hp]; exact S.ra_lt i k hi hk)
    rw [S.pa_ra i k hi hk] at hj
    exact ⟨j, hj, (H.held k j hk hj).1, fun e => hf k hk (e ▸ hj)⟩
  have hl := gs_pigeon S.n (i :: (List.range S.n).map fun k => (h k).getD 0) (by
    rw [List.nodup_cons]
    constructor
    · intro hm
      obtain ⟨k, hk, he⟩ := List.mem_map.1 hm
      obtain ⟨j, hj, _, hne⟩ := hall k (List.mem_range.1 hk)
      rw [hj] at he
      exact hne he
    · rw [List.nodup_iff_pairwise_ne, List.pairwise_map]
      refine List.Pairwise.imp_of_mem ?_ (List.nodup_iff_pairwise_ne.1 List.nodup_range)
      intro k k' hk hk' hne he
      obtain ⟨j, hj, _, _⟩ := hall k (List.mem_range.1 hk)
      obtain ⟨j', hj', _, _⟩ := hall k' (List.mem_range.1 hk')
      rw [hj, hj'] at he
      simp at he
      subst he
      exact hne ((H.held k j (List.mem_range.1 hk) hj).2.2.symm.trans (H.held k' j (List.mem_range.1 hk') hj').2.2))
    (fun x hx => by
      rcases List.mem_cons.1 hx with rfl | hm
      · exact hi
      · obtain ⟨k, hk, he⟩ := List.mem_map.1 hm
        obtain ⟨j, hj, hlt, _⟩ := hall k (List.mem_range.1 hk)
        rw [hj] at he
        simp at he
        omega)
  simp at hl
  omega
/-- A free shovel takes whoever asks. -/
theorem asked_take {S : Sides} {p h} (H : Asked S p h) {i : Nat} (hi : i < S.n) (hp : p i < S.n) (hn : h (S.pa i (p i)) = none) : Asked S p (fun k => if k = S.pa i (p i) then some i else h k) where
  le := H.le
  held := fun k j hk e => by
    by_cases hk' : k = S.pa i (p i)
    · simp only [hk', if_true] at e
      injection e with e
      subst e
      exact ⟨hi, hp, hk'.symm⟩
    · simp only [if_neg hk'] at e
      exact H.held k j hk e
  better := fun j r hj hr => by
    obtain ⟨q, hq, hb⟩ := H.better j r hj hr
    have : S.pa j r ≠ S.pa i (p i) := fun e => by rw [e, hn] at hq; cases hq
    exact ⟨q, by simp only [if_neg this]; exact hq, hb⟩
  best := H.best
theorem not_best {S : Sides} {p h} (H : Asked S p h) {mu} (hm : Stab S mu) {x y k : Nat} (hx : x < S.n) (hy : y < S.n) (hne : x ≠ y) (hpx : p x < S.n) (hpy : p y < S.n) (hkx : S.pa x (p x) = k) (hky : S.pa y (p y) = k) (hb : S.rb k y < S.rb k x) : p x + 1 ≤ S.ra x (mu x) := by
  have h1 := H.best mu hm x hx
  have h2 := H.best mu hm y hy
  rcases Nat.lt_or_ge (p x) (S.ra x (mu x)) with h3 | h3
  · exact h3
  exfalso
  have e1 : p x = S.ra x (mu x) := by omega
  have e2 : k = mu x := by rw [← hkx, e1, S.pa_ra x _ hx (hm.lt x hx)]
  have h4 : p y < S.ra y (mu y) := by
    rcases Nat.lt_or_ge (p y) (S.ra y (mu y)) with h5 | h5
    · exact h5
    exfalso
    have e3 : p y = S.ra y (mu y) := by omega
    have e4 : k = mu y := by rw [← hky, e3, S.pa_ra y _ hy (hm.lt y hy)]
    exact hne (hm.inj x y hx hy (e2.symm.trans e4))
  refine hm.none y x hy hx ?_ ?_
  · rw [← e2, ← hky, S.ra_pa y (p y) hy hpy]; exact h4
  · rw [← e2]; exact hb
/-- A shovel that holds a worse one takes whoever asks; the other is refused. -/
theorem asked_turn {S : Sides} {p h} (H : Asked S p h) {i j : Nat} (hi : i < S.n) (hp : p i < S.n) (hij : i ≠ j) (hn : h (S.pa i (p i)) = some j) (hb : S.rb (S.pa i (p i)) i < S.rb (S.pa i (p i)) j) : Asked S (fun x => if x = j then p j + 1 else p x) (fun k => if k = S.pa i (p i) then some i else h k) := by
  have hk := S.pa_lt i (p i) hi hp
  obtain ⟨hj, hpj, hkj⟩ := H.held _ _ hk hn
  refine ⟨fun x hx => ?_, fun k x hk' e => ?_, fun x r hx hr => ?_, fun mu hm x hx => ?_⟩
  · by_cases hxj : x = j
    · simp only [hxj, if_true]; omega
    · simp only [if_neg hxj]; exact H.le x hx
  · by_cases hkk : k = S.pa i (p i)
    · simp only [hkk, if_true] at e
      injection e with e
      subst e
      simp only [if_neg hij]
      exact ⟨hi, hp, hkk.symm⟩
    · simp only [if_neg hkk] at e
      have h1 := H.held k x hk' e
      have hxj : x ≠ j := fun e2 => by
        subst e2
        exact hkk (h1.2.2.symm.trans hkj)
      simp only [if_neg hxj]
      exact h1
  · have key : ∀ q, h (S.pa x r) = some q → S.rb (S.pa x r) q ≤ S.rb (S.pa x r) x → (x = j → q = j → False ∨ S.pa x r = S.pa i (p i)) → ∃ q', (if S.pa x r = S.pa i (p i) then some i else h (S.pa x r)) = some q' ∧ S.rb (S.pa x r) q' < S.rb (S.pa x r) x ∨ (S.pa x r ≠ S.pa i (p i) ∧ ¬ S.rb (S.pa x r) q < S.rb (S.pa x r) x) := by
      intro q hq hle _
      by_cases e : S.pa x r = S.pa i (p i)
      · refine ⟨i, .inl ⟨by rw [if_pos e], ?_⟩⟩
        rw [e] at hq hle ⊢
        rw [hn] at hq
        injection hq with hq
        subst hq
        omega
      · by_cases hlt : S.rb (S.pa x r) q < S.rb (S.pa x r) x
        · exact ⟨q, .inl ⟨by rw [if_neg e]; exact hq, hlt⟩⟩
        · exact ⟨q, .inr ⟨e, hlt⟩⟩
    by_cases hxj : x = j
    · subst hxj
      simp only [if_true] at hr
      rcases Nat.lt_or_ge r (p x) with h1 | h1
      · obtain ⟨q, hq, hlt⟩ := H.better x r hx h1
        obtain ⟨q', h2 | h2⟩ := key q hq (by omega) (fun _ _ => by by_cases e : S.pa x r = S.pa i (p i); exact .inr e; subst_vars; exact absurd hlt (by omega))
        · exact ⟨q', h2.1, h2.2⟩
        · exact absurd hlt h2.2
      · have e : r = p x := by omega
        subst e
        rw [hkj]
        exact ⟨i, by simp, hb⟩
    · simp only [if_neg hxj] at hr
      obtain ⟨q, hq, hlt⟩ := H.better x r hx hr
      obtain ⟨q', h2 | h2⟩ := key q hq (by omega) (fun e => absurd e hxj)
      · exact ⟨q', h2.1, h2.2⟩
      · exact absurd hlt h2.2
  · by_cases hxj : x = j
    · subst hxj
      simp only [if_true]
      exact not_best H hm hx hi (fun e => hij e.symm) hpj hp hkj rfl hb
    · simp only [if_neg hxj]
      exact H.best mu hm x hx
/-- A shovel that holds a better one refuses. -/
theorem asked_refuse {S : Sides} {p h} (H : Asked S p h) {i j : Nat} (hi : i < S.n) (hp : p i < S.n) (hij : i ≠ j) (hf : ∀ k, k < S.n → h k ≠ some i) (hn : h (S.pa i (p i)) = some j) (hb : S.rb (S.pa i (p i)) j < S.rb (S.pa i (p i)) i) : Asked S (fun x => if x = i then p i + 1 else p x) h := by
  have hk := S.pa_lt i (p i) hi hp
  obtain ⟨hj, hpj, hkj⟩ := H.held _ _ hk hn
  refine ⟨fun x hx => ?_, fun k x hk' e => ?_, fun x r hx hr => ?_, fun mu hm x hx => ?_⟩
  · by_cases hxi : x = i
    · simp only [hxi, if_true]; omega
    · simp only [if_neg hxi]; exact H.le x hx
  · have hxi : x ≠ i := fun e2 => hf k hk' (e2 ▸ e)
    simp only [if_neg hxi]
    exact H.held k x hk' e
  · by_cases hxi : x = i
    · subst hxi
      simp only [if_true] at hr
      rcases Nat.lt_or_ge r (p x) with h1 | h1
      · exact H.better x r hx h1
      · have e : r = p x := by omega
        subst e
        exact ⟨j, hn, hb⟩
    · simp only [if_neg hxi] at hr
      exact H.better x r hx hr
  · by_cases hxi : x = i
    · subst hxi
      simp only [if_true]
      exact not_best H hm hx hj hij hp hpj rfl hkj hb
    · simp only [if_neg hxi]
      exact H.best mu hm x hx
/-- Where every truck is held, the match is stable. -/
theorem asked_stab {S : Sides} {p h} (H : Asked S p h) (hall : ∀ i, i < S.n → p i < S.n ∧ h (S.pa i (p i)) = some i) : Stab S (fun i => S.pa i (p i)) where
  lt := fun i hi => S.pa_lt i _ hi (hall i hi).1
  inj := fun i j hi hj e => by
    have h1 := (hall i hi).2
    have e' : S.pa i (p i) = S.pa j (p j) := e
    rw [e', (hall j hj).2] at h1
    injection h1 with h1
    exact h1.symm
  none := fun i j hi hj h1 h2 => by
    have h3 := (hall j hj).2
    have hk := S.pa_lt j _ hj (hall j hj).1
    rw [S.ra_pa i _ hi (hall i hi).1] at h1
    obtain ⟨q, hq, hb⟩ := H.better i _ hi h1
    rw [S.pa_ra i _ hi hk, h3] at hq
    injection hq with hq
    subst hq
    rw [S.pa_ra i _ hi hk] at hb
    have h2' : S.rb (S.pa j (p j)) i < S.rb (S.pa j (p j)) j := h2
    omega
/-- Two askings that have come to their ends have come to the same match. -/
theorem asked_one {S : Sides} {p h p' h'} (H : Asked S p h) (H' : Asked S p' h') (hall : ∀ i, i < S.n → p i < S.n ∧ h (S.pa i (p i)) = some i) (hall' : ∀ i, i < S.n → p' i < S.n ∧ h' (S.pa i (p' i)) = some i) : ∀ i, i < S.n → p i = p' i := by
  intro i hi
  have h1 := H.best _ (asked_stab H' hall') i hi
  have h2 := H'.best _ (asked_stab H hall) i hi
  simp only [S.ra_pa i _ hi (hall' i hi).1] at h1
  simp only [S.ra_pa i _ hi (hall i hi).1] at h2
  omega

/-- The place of a number in a list. -/
def pos : List Int → Int → Nat
  | [], _ => 0
  | x :: l, a => if x = a then 0 else pos l a + 1
theorem pos_get : ∀ (l : List Int) (a : Int), a ∈ l → ∃ h : pos l a < l.length, l[pos l a] = a := by
  intro l
  induction l with
  | nil => intro a h; cases h
  | cons x l ih =>
    intro a h
    by_cases e : x = a
    · simp [pos, e]
    · obtain ⟨h1, h2⟩ := ih a ((List.mem_cons.1 h).resolve_left (fun h => e h.symm))
      simp only [pos, if_neg e]
      exact ⟨by rw [List.length_cons]; omega, by simpa using h2⟩
theorem pos_at : ∀ {l : List Int}, l.Nodup → ∀ (r : Nat) (h : r < l.length), pos l l[r] = r := by
  intro l
  induction l with
  | nil => intro _ r h; simp at h
  | cons x l ih =>
    intro hd r h
    rw [List.nodup_cons] at hd
    cases r with
    | zero => simp [pos]
    | succ r =>
      have h' : r < l.length := by simpa using h
      have hne : ¬ x = l[r] := fun e => hd.1 (by rw [e]; exact List.getElem_mem h')
      simp only [List.getElem_cons_succ, pos, if_neg hne]
      rw [ih hd.2 r h']
theorem rank_pos (l : List Int) (hl : l.length ≤ 1048576) (a : Int) (ha : a ∈ l) : (∃ K, ∀ k, K ≤ k → spec_maRank.f k l a = some (pos l a : Int)) ∧ ∃ K, ∀ k, K ≤ k → slices_Index_int_int.f k l a = some (pos l a : Int) := by
  have key : ∀ d i, i + d = l.length → a ∈ l.drop i → (∃ K, ∀ k, K ≤ k → spec_maRank.l0 k l a (i : Int) = some ((i + pos (l.drop i) a : Nat) : Int)) ∧ ∃ K, ∀ k, K ≤ k → slices_Index_int_int.l0 k l a (l.length : Int) (i : Int) = some ((i + pos (l.drop i) a : Nat) : Int) := by
    intro d
    induction d with
    | zero =>
      intro i hi hm
      rw [List.drop_of_length_le (by omega)] at hm
      simp at hm
    | succ d ih =>
      intro i hi hm
      have hlt : i < l.length := by omega
      rw [List.drop_eq_getElem_cons hlt] at hm ⊢
      by_cases h1 : l[i] = a
      · simp only [pos, if_pos h1, Nat.add_zero]
        refine ⟨ev_suc 0 fun k _ => ?_, ev_suc 0 fun k _ => ?_⟩
        · simp only [spec_maRank.l0]
          rw [if_pos (by omega), if_pos (by omega), rd_nat l i hlt, if_pos h1]
        · simp only [slices_Index_int_int.l0]
          rw [if_pos (by omega), if_pos (by omega), if_pos (by omega), rd_nat l i hlt, if_pos h1.symm]
      · have hm2 := (List.mem_cons.1 hm).resolve_left (fun h => h1 h.symm)
        obtain ⟨⟨K1, h2⟩, ⟨K2, h3⟩⟩ := ih (i + 1) (by omega) hm2
        simp only [pos, if_neg h1]
        rw [show i + (pos (l.drop (i + 1)) a + 1) = i + 1 + pos (l.drop (i + 1)) a from by omega]
        refine ⟨ev_suc K1 fun k hk => ?_, ev_suc K2 fun k hk => ?_⟩
        · simp only [spec_maRank.l0]
          rw [if_pos (by omega), if_pos (by omega), rd_nat l i hlt, if_neg h1, w64s (by omega)]
          exact h2 k hk
        · simp only [slices_Index_int_int.l0]
          rw [if_pos (by omega), if_pos (by omega), if_pos (by omega), rd_nat l i hlt, if_neg (fun h => h1 h.symm), w64s (by omega)]
          exact h3 k hk
  have h := key l.length 0 (by omega) (by simpa using ha)
  rw [List.drop_zero, Nat.zero_add] at h
  exact h
theorem perm_facts {l : List Int} {n : Nat} (h : isMatchP l (n : Int)) : (∀ r, r < n → 0 ≤ rd l (r : Int) ∧ rd l (r : Int) < (n : Int) ∧ pos l (rd l (r : Int)) = r) ∧ ∀ k, k < n → pos l (k : Int) < n ∧ rd l (pos l (k : Int) : Int) = (k : Int) ∧ (k : Int) ∈ l := by
  have hl : l.length = n := by have := h.1; omega
  refine ⟨fun r hr => ?_, fun k hk => ?_⟩
  · rw [rd_nat l r (by omega)]
    have h1 := h.2.1 _ (List.getElem_mem (show r < l.length by omega))
    exact ⟨h1.1, h1.2, pos_at h.2.2 r (by omega)⟩
  · have hm := match_all h (k : Int) (by omega) (by omega)
    obtain ⟨h1, h2⟩ := pos_get l (k : Int) hm
    rw [rd_nat l _ h1]
    exact ⟨by omega, h2, hm⟩
def rowOf (a : List (List Int)) (i : Nat) : List Int := rd_L2 a (i : Int)
theorem row_match {a : List (List Int)} {n : Nat} (hl : a.length = n) (ha : ∀ x ∈ a, isMatchP x (n : Int)) (i : Nat) (hi : i < n) : isMatchP (rowOf a i) (n : Int) := by
  unfold rowOf
  rw [rdLL_nat a i (by omega)]
  exact ha _ (List.getElem_mem (by omega))
/-- The sides as the lists tell them. -/
def sidesOf (a b : List (List Int)) (n : Nat) (hal : a.length = n) (hbl : b.length = n) (ha : ∀ x ∈ a, isMatchP x (n : Int)) (hb : ∀ x ∈ b, isMatchP x (n : Int)) : Sides where
  n := n
  pa := fun i r => (rd (rowOf a i) (r : Int)).toNat
  ra := fun i k => pos (rowOf a i) (k : Int)
  rb := fun k i => pos (rowOf b k) (i : Int)
  pa_lt := fun i r hi hr => by have := (perm_facts (row_match hal ha i hi)).1 r hr; omega
  ra_lt := fun i k hi hk => ((perm_facts (row_match hal ha i hi)).2 k hk).1
  ra_pa := fun i r hi hr => by
    have h := (perm_facts (row_match hal ha i hi)).1 r hr
    rw [Int.toNat_of_nonneg h.1]
    exact h.2.2
  pa_ra := fun i k hi hk => by
    have h := (perm_facts (row_match hal ha i hi)).2 k hk
    rw [h.2.1]; simp
  rb_inj := fun k i j hk hi hj e => by
    have h1 := (perm_facts (row_match hbl hb k hk)).2 i hi
    have h2 := (perm_facts (row_match hbl hb k hk)).2 j hj
    have e' : pos (rowOf b k) (i : Int) = pos (rowOf b k) (j : Int) := e
    rw [e', h2.2.1] at h1
    omega
theorem rd_set (l : List Int) (i j : Nat) (x : Int) (hj : j < l.length) : rd (l.set i x) (j : Int) = if i = j then x else rd l (j : Int) := by
  rw [rd_nat _ _ (by rw [List.length_set]; exact hj), rd_nat l j hj, List.getElem_set]
/-- Where the asking stands, as the lists tell it: how often each truck asked, whom each shovel holds, who is free. -/
structure SI (S : Sides) (next of : List Int) (F : Nat → Prop) (p : Nat → Nat) (h : Nat → Option Nat) : Prop where
  H : Asked S p h
  ln : next.length = S.n
  lo : of.length = S.n
  hno : ∀ k, k < S.n → h k = none → rd of (k : Int) = -1
  hso : ∀ k i, k < S.n → h k = some i → rd of (k : Int) = (i : Int)
  fr : ∀ i, i < S.n → (F i ↔ ∀ k, k < S.n → h k ≠ some i)
  nf : ∀ i, i < S.n → F i → rd next (i : Int) = (p i : Int)
  nh : ∀ i, i < S.n → ¬ F i → rd next (i : Int) = (p i : Int) + 1
theorem SI.iff {S : Sides} {next of F F' p h} (I : SI S next of F p h) (e : ∀ i, i < S.n → (F i ↔ F' i)) : SI S next of F' p h :=
  ⟨I.H, I.ln, I.lo, I.hno, I.hso, fun i hi => (e i hi).symm.trans (I.fr i hi), fun i hi hf => I.nf i hi ((e i hi).2 hf), fun i hi hf => I.nh i hi (fun h => hf ((e i hi).1 h))⟩
theorem SI.asks {S : Sides} {next of F p h} (I : SI S next of F p h) {i : Nat} (hi : i < S.n) (hf : F i) : p i < S.n ∧ rd next (i : Int) = (p i : Int) := ⟨asked_more I.H hi ((I.fr i hi).1 hf), I.nf i hi hf⟩
theorem SI.next_le {S : Sides} {next of F p h} (I : SI S next of F p h) {i : Nat} (hi : i < S.n) : 0 ≤ rd next (i : Int) ∧ rd next (i : Int) ≤ (S.n : Int) := by
  by_cases hf : F i
  · have := I.asks hi hf; omega
  · have h1 := I.nh i hi hf
    have h2 : ∃ k, k < S.n ∧ h k = some i := by
      apply Classical.byContradiction
      intro hn
      exact hf ((I.fr i hi).2 (fun k hk e => hn ⟨k, hk, e⟩))
    obtain ⟨k, hk, e⟩ := h2
    have := (I.H.held k i hk e).2.1
    omega
theorem SI.take {S : Sides} {next of F p h} (I : SI S next of F p h) {i : Nat} (hi : i < S.n) (hf : F i) (hn : h (S.pa i (p i)) = none) :
    SI S (next.set i ((p i : Int) + 1)) (of.set (S.pa i (p i)) (i : Int)) (fun t => F t ∧ t ≠ i) p (fun k => if k = S.pa i (p i) then some i else h k) := by
  have hp := (I.asks hi hf).1
  have hk := S.pa_lt i _ hi hp
  refine ⟨asked_take I.H hi hp hn, by rw [List.length_set]; exact I.ln, by rw [List.length_set]; exact I.lo, fun k hk' e => ?_, fun k j hk' e => ?_, fun t ht => ?_, fun t ht hft => ?_, fun t ht hft => ?_⟩
  · by_cases e2 : k = S.pa i (p i)
    · simp [e2] at e
    · simp only [if_neg e2] at e
      rw [rd_set _ _ _ _ (by rw [I.lo]; exact hk'), if_neg (fun e3 => e2 e3.symm)]
      exact I.hno k hk' e
  · rw [rd_set _ _ _ _ (by rw [I.lo]; exact hk')]
    by_cases e2 : k = S.pa i (p i)
    · simp only [if_pos e2] at e
      injection e with e
      rw [if_pos e2.symm, e]
    · simp only [if_neg e2] at e
      rw [if_neg (fun e3 => e2 e3.symm)]
      exact I.hso k j hk' e
  · constructor
    · intro ⟨h1, h2⟩ k hk' e
      by_cases e2 : k = S.pa i (p i)
      · simp only [if_pos e2] at e
        injection e with e
        exact h2 e.symm
      · simp only [if_neg e2] at e
        exact (I.fr t ht).1 h1 k hk' e
    · intro h1
      refine ⟨(I.fr t ht).2 (fun k hk' e => ?_), fun e => ?_⟩
      · by_cases e2 : k = S.pa i (p i)
        · rw [e2, hn] at e; cases e
        · exact h1 k hk' (by simp only [if_neg e2]; exact e)
      · exact h1 _ hk (by simp [e])
  · rw [rd_set _ _ _ _ (by rw [I.ln]; exact ht), if_neg (fun e => hft.2 e.symm)]
    exact I.nf t ht hft.1
  · rw [rd_set _ _ _ _ (by rw [I.ln]; exact ht)]
    by_cases e : i = t
    · rw [if_pos e, e]
    · rw [if_neg e]
      exact I.nh t ht (fun h => hft ⟨h, fun e2 => e e2.symm⟩)
theorem SI.turn {S : Sides} {next of F p h} (I : SI S next of F p h) {i j : Nat} (hi : i < S.n) (hf : F i) (hn : h (S.pa i (p i)) = some j) (hb : S.rb (S.pa i (p i)) i < S.rb (S.pa i (p i)) j) :
    SI S (next.set i ((p i : Int) + 1)) (of.set (S.pa i (p i)) (i : Int)) (fun t => (F t ∧ t ≠ i) ∨ t = j) (fun x => if x = j then p j + 1 else p x) (fun k => if k = S.pa i (p i) then some i else h k) := by
  have hp := (I.asks hi hf).1
  have hk := S.pa_lt i _ hi hp
  have hij : i ≠ j := fun e => (I.fr i hi).1 hf _ hk (by rw [hn, e])
  obtain ⟨hj, hpj, hkj⟩ := I.H.held _ _ hk hn
  have hjf : ¬ F j := fun hfj => (I.fr j hj).1 hfj _ hk hn
  refine ⟨asked_turn I.H hi hp hij hn hb, by rw [List.length_set]; exact I.ln, by rw [List.length_set]; exact I.lo, fun k hk' e => ?_, fun k t hk' e => ?_, fun t ht => ?_, fun t ht hft => ?_, fun t ht hft => ?_⟩
  · by_cases e2 : k = S.pa i (p i)
    · simp [e2] at e
    · simp only [if_neg e2] at e
      rw [rd_set _ _ _ _ (by rw [I.lo]; exact hk'), if_neg (fun e3 => e2 e3.symm)]
      exact I.hno k hk' e
  · rw [rd_set _ _ _ _ (by rw [I.lo]; exact hk')]
    by_cases e2 : k = S.pa i (p i)
    · simp only [if_pos e2] at e
      injection e with e
      rw [if_pos e2.symm, e]
    · simp only [if_neg e2] at e
      rw [if_neg (fun e3 => e2 e3.symm)]
      exact I.hso k t hk' e
  · constructor
    · intro h1 k hk' e
      by_cases e2 : k = S.pa i (p i)
      · simp only [if_pos e2] at e
        injection e with e
        rcases h1 with h1 | h1
        · exact h1.2 e.symm
        · exact hij (e.trans h1)
      · simp only [if_neg e2] at e
        rcases h1 with h1 | h1
        · exact (I.fr t ht).1 h1.1 k hk' e
        · subst h1
          exact e2 ((I.H.held k t hk' e).2.2.symm.trans hkj)
    · intro h1
      by_cases e : t = j
      · exact .inr e
      · refine .inl ⟨(I.fr t ht).2 (fun k hk' e3 => ?_), fun e3 => ?_⟩
        · by_cases e2 : k = S.pa i (p i)
          · rw [e2, hn] at e3
            injection e3 with e3
            exact e e3.symm
          · exact h1 k hk' (by simp only [if_neg e2]; exact e3)
        · exact h1 _ hk (by simp [e3])
  · rw [rd_set _ _ _ _ (by rw [I.ln]; exact ht)]
    by_cases e : t = j
    · subst e
      rw [if_neg hij, if_pos rfl]
      have := I.nh t ht hjf
      omega
    · have h1 := hft.resolve_right e
      rw [if_neg (fun e2 => h1.2 e2.symm), if_neg e]
      exact I.nf t ht h1.1
  · have e : t ≠ j := fun e => hft (.inr e)
    rw [rd_set _ _ _ _ (by rw [I.ln]; exact ht), if_neg e]
    by_cases e2 : i = t
    · rw [if_pos e2, e2]
    · rw [if_neg e2]
      exact I.nh t ht (fun h => hft (.inl ⟨h, fun e3 => e2 e3.symm⟩))
theorem SI.refuse {S : Sides} {next of F p h} (I : SI S next of F p h) {i j : Nat} (hi : i < S.n) (hf : F i) (hn : h (S.pa i (p i)) = some j) (hb : S.rb (S.pa i (p i)) j < S.rb (S.pa i (p i)) i) :
    SI S (next.set i ((p i : Int) + 1)) of F (fun x => if x = i then p i + 1 else p x) h := by
  have hp := (I.asks hi hf).1
  have hk := S.pa_lt i _ hi hp
  have hij : i ≠ j := fun e => (I.fr i hi).1 hf _ hk (by rw [hn, e])
  refine ⟨asked_refuse I.H hi hp hij ((I.fr i hi).1 hf) hn hb, by rw [List.length_set]; exact I.ln, I.lo, I.hno, I.hso, I.fr, fun t ht hft => ?_, fun t ht hft => ?_⟩
  · rw [rd_set _ _ _ _ (by rw [I.ln]; exact ht)]
    by_cases e : t = i
    · subst e
      rw [if_pos rfl, if_pos rfl]
      omega
    · rw [if_neg (fun e2 => e e2.symm), if_neg e]
      exact I.nf t ht hft
  · have e : t ≠ i := fun e => hft (e ▸ hf)
    rw [rd_set _ _ _ _ (by rw [I.ln]; exact ht), if_neg (fun e2 => e e2.symm), if_neg e]
    exact I.nh t ht hft
theorem sum_set (l : List Int) : ∀ (i : Nat), i < l.length → ∀ x : Int, (l.set i x).sum = l.sum + x - rd l (i : Int) := by
  induction l with
  | nil => intro i h; simp at h
  | cons y l ih =>
    intro i h x
    cases i with
    | zero => rw [rd_nat _ _ h]; simp; omega
    | succ i =>
      have h' : i < l.length := by simpa using h
      rw [rd_nat _ _ h, List.set_cons_succ, List.sum_cons, List.sum_cons, ih i h' x, rd_nat l i h', List.getElem_cons_succ]
      omega
theorem sum_le (l : List Int) (B : Int) : (∀ i : Nat, i < l.length → rd l (i : Int) ≤ B) → l.sum ≤ B * (l.length : Int) := by
  induction l with
  | nil => intro _; simp
  | cons x l ih =>
    intro h
    have h0 := h 0 (by simp)
    have h1 := ih (fun i hi => by
      have := h (i + 1) (by simpa using hi)
      rw [rd_nat _ _ (by simpa using hi)] at this
      rw [rd_nat l i hi]
      simpa using this)
    rw [rd_nat _ _ (by simp)] at h0
    rw [List.sum_cons, List.length_cons, Int.natCast_add, Int.mul_add, Int.natCast_one, Int.mul_one]
    simp only [List.getElem_cons_zero] at h0
    omega
/-- Where nobody is free, the match is told. -/
structure Done (S : Sides) (p : Nat → Nat) (h : Nat → Option Nat) : Prop where
  H : Asked S p h
  all : ∀ i, i < S.n → p i < S.n ∧ h (S.pa i (p i)) = some i
theorem SI.done {S : Sides} {next of F p h} (I : SI S next of F p h) (hF : ∀ i, i < S.n → ¬ F i) : Done S p h := by
  refine ⟨I.H, fun i hi => ?_⟩
  have h2 : ∃ k, k < S.n ∧ h k = some i := by
    apply Classical.byContradiction
    intro hn
    exact hF i hi ((I.fr i hi).2 (fun k hk e => hn ⟨k, hk, e⟩))
  obtain ⟨k, hk, e⟩ := h2
  obtain ⟨_, h3, h4⟩ := I.H.held k i hk e
  exact ⟨h3, by rw [h4]; exact e⟩
/-- What a list tells of the match that the asking comes to. -/
structure Ends (S : Sides) (out : List Int) : Prop where
  len : out.length = S.n
  ends : ∃ p h, Done S p h ∧ ∀ i, i < S.n → rd out (i : Int) = (S.pa i (p i) : Int)
theorem ends_one {S : Sides} {x y : List Int} (hx : Ends S x) (hy : Ends S y) : x = y := by
  obtain ⟨l1, p, h, D, e1⟩ := hx
  obtain ⟨l2, p', h', D', e2⟩ := hy
  have e3 := asked_one D.H D'.H D.all D'.all
  apply List.ext_getElem (by omega)
  intro i h1 h2
  have q1 := e1 i (by omega)
  have q2 := e2 i (by omega)
  rw [rd_nat x i h1] at q1
  rw [rd_nat y i h2] at q2
  rw [q1, q2, e3 i (by omega)]
/-- What holds of both programs' askings at a step. -/
theorem ask_facts {a b : List (List Int)} {n : Nat} {hal : a.length = n} {hbl : b.length = n} {ha : ∀ x ∈ a, isMatchP x (n : Int)} {hb : ∀ x ∈ b, isMatchP x (n : Int)} {next of : List Int} {F : Nat → Prop} {p : Nat → Nat} {h : Nat → Option Nat} (I : SI (sidesOf a b n hal hbl ha hb) next of F p h) {i : Nat} (hi : i < n) (hf : F i) :
    ∃ kk : Nat, kk < n ∧ kk = (sidesOf a b n hal hbl ha hb).pa i (p i) ∧ p i < n ∧ rd next (i : Int) = (p i : Int) ∧ (rd_L2 a (i : Int)).length = n ∧ rd (rd_L2 a (i : Int)) (p i : Int) = (kk : Int) ∧ (rd_L2 b (kk : Int)).length = n := by
  obtain ⟨h1, h2⟩ := I.asks hi hf
  have h3 := row_match hal ha i hi
  have h4 := (perm_facts h3).1 (p i) h1
  refine ⟨_, (sidesOf a b n hal hbl ha hb).pa_lt i _ hi h1, rfl, h1, h2, by have := h3.1; unfold rowOf at this; omega, ?_, ?_⟩
  · show rd (rowOf a i) (p i : Int) = (((rd (rowOf a i) (p i : Int)).toNat : Nat) : Int)
    rw [Int.toNat_of_nonneg h4.1]
  · have := (row_match hbl hb _ ((sidesOf a b n hal hbl ha hb).pa_lt i _ hi h1)).1
    unfold rowOf at this
    omega
theorem sum_bound {S : Sides} {next of F p h} (I : SI S next of F p h) : next.sum ≤ (S.n : Int) * (S.n : Int) := by
  have := sum_le next (S.n : Int) (fun i hi => (I.next_le (by rw [← I.ln]; exact hi)).2)
  rw [I.ln] at this
  exact this
theorem done_all {S : Sides} {p h} (D : Done S p h) (k : Nat) (hk : k < S.n) : ∃ i, i < S.n ∧ S.pa i (p i) = k := by
  apply Classical.byContradiction
  intro hn
  have h1 := gs_pigeon S.n (k :: (List.range S.n).map fun i => S.pa i (p i)) (by
    rw [List.nodup_cons]
    constructor
    · intro hm
      obtain ⟨i, hi, e⟩ := List.mem_map.1 hm
      exact hn ⟨i, List.mem_range.1 hi, e⟩
    · rw [List.nodup_iff_pairwise_ne, List.pairwise_map]
      refine List.Pairwise.imp_of_mem ?_ (List.nodup_iff_pairwise_ne.1 List.nodup_range)
      intro i j hi hj hne e
      exact hne ((asked_stab D.H D.all).inj i j (List.mem_range.1 hi) (List.mem_range.1 hj) e))
    (fun x hx => by
      rcases List.mem_cons.1 hx with rfl | hm
      · exact hk
      · obtain ⟨i, hi, e⟩ := List.mem_map.1 hm
        rw [← e]
        exact S.pa_lt i _ (List.mem_range.1 hi) (D.all i (List.mem_range.1 hi)).1)
  simp at h1
  omega
/-- The reference's last loop. -/
def outTo (of : List Int) (n : Nat) : Nat → List Int
  | 0 => List.replicate n 0
  | k + 1 => (outTo of n k).set (rd of (k : Int)).toNat (k : Int)
theorem outTo_len (of : List Int) (n : Nat) : ∀ k, (outTo of n k).length = n := by
  intro k
  induction k with
  | zero => simp [outTo]
  | succ k ih => simp only [outTo, List.length_set]; exact ih
theorem si_of {S : Sides} {next of F p h} (I : SI S next of F p h) (D : Done S p h) (k : Nat) (hk : k < S.n) : ∃ i, i < S.n ∧ rd of (k : Int) = (i : Int) ∧ S.pa i (p i) = k := by
  obtain ⟨i, hi, e⟩ := done_all D k hk
  have h1 := (D.all i hi).2
  rw [e] at h1
  exact ⟨i, hi, I.hso k i hk h1, e⟩
theorem outTo_at {S : Sides} {next of F p h} (I : SI S next of F p h) (D : Done S p h) : ∀ m, m ≤ S.n → ∀ i, i < S.n → S.pa i (p i) < m → rd (outTo of S.n m) (i : Int) = (S.pa i (p i) : Int) := by
  intro m
  induction m with
  | zero => intro _ i _ h; omega
  | succ m ih =>
    intro hm i hi hlt
    obtain ⟨t, ht, e1, e2⟩ := si_of I D m (by omega)
    simp only [outTo]
    rw [e1, Int.toNat_natCast, rd_set _ _ _ _ (by rw [outTo_len]; exact hi)]
    by_cases e : t = i
    · rw [if_pos e, ← e, e2]
    · rw [if_neg e]
      refine ih (by omega) i hi ?_
      have hne : S.pa i (p i) ≠ m := fun e3 => e ((asked_stab D.H D.all).inj t i ht hi (e2.trans e3.symm))
      omega
section
variable {a b : List (List Int)} {n : Nat} (hn : n ≤ 7) (hal : a.length = n) (hbl : b.length = n) (ha : ∀ x ∈ a, isMatchP x (n : Int)) (hb : ∀ x ∈ b, isMatchP x (n : Int))
include hn
set_option maxHeartbeats 4000000 in
theorem spec_ask : ∀ (e : Nat) (next of free : List Int) (p : Nat → Nat) (h : Nat → Option Nat), next.sum + (e : Int) = (n : Int) * (n : Int) + 1 → free.Nodup → (∀ x ∈ free, 0 ≤ x ∧ x < (n : Int)) → SI (sidesOf a b n hal hbl ha hb) next of (fun t => (t : Int) ∈ free) p h → ∃ out, Ends (sidesOf a b n hal hbl ha hb) out ∧ ∃ K, ∀ k, K ≤ k → spec_maStable.l2 k a b (n : Int) next of free = some out := by
  intro e
  induction e with
  | zero =>
    intro next of free p h hs _ _ I
    have := sum_bound I
    have e1 : (sidesOf a b n hal hbl ha hb).n = n := rfl
    rw [e1] at this
    omega
  | succ e ih =>
    intro next of free p h hs hd hr I
    have hSn : (sidesOf a b n hal hbl ha hb).n = n := rfl
    have hfl : free.length ≤ n := pigeon n free hd hr
    cases free with
    | nil =>
      have D := I.done (fun i _ hm => by cases hm)
      refine ⟨outTo of n n, ⟨outTo_len of n n, p, h, D, fun i hi => outTo_at I D n (Nat.le_refl _) i hi ((sidesOf a b n hal hbl ha hb).pa_lt i _ hi (D.all i hi).1)⟩, ?_⟩
      have h1 := ev_loop (F := fun k i => spec_maStable.l3 k (outTo of n i) of (of.length : Int) (i : Int)) (n := n) (res := fun _ => outTo of n n)
        (ev_suc 0 fun k _ => by simp only [spec_maStable.l3]; rw [if_neg (by rw [I.lo, hSn]; omega)])
        (fun i hi K hK => by
          obtain ⟨t, ht, e1, _⟩ := si_of I D i hi
          have ht' : t < n := ht
          have hlo : of.length = n := I.lo
          refine ev_suc K fun k hk => ?_
          simp only [spec_maStable.l3]
          rw [if_pos (by omega), if_pos (by omega), if_pos (by omega), e1, if_pos (by omega), if_pos (by rw [outTo_len]; omega), w64s (by omega)]
          have := hK k hk
          simp only [outTo] at this
          rw [e1] at this
          exact this) 0 (Nat.zero_le _)
      obtain ⟨K, h1⟩ := h1
      refine ev_suc K fun k hk => ?_
      simp only [spec_maStable.l2]
      rw [if_neg (by simp), if_pos (by omega), if_pos (by omega), Int.toNat_natCast]
      have := h1 k hk
      simpa [outTo] using this
    | cons x rest =>
      have hx := hr x (List.mem_cons_self)
      obtain ⟨i, rfl⟩ := Int.eq_ofNat_of_zero_le hx.1
      have hi : i < n := by omega
      have hf : ((i : Nat) : Int) ∈ ((i : Int) :: rest) := List.mem_cons_self
      rw [List.nodup_cons] at hd
      have hrest : ∀ x ∈ rest, 0 ≤ x ∧ x < (n : Int) := fun x hx => hr x (List.mem_cons_of_mem _ hx)
      obtain ⟨kk, hkn, hkk, hp, hnx, hla, hka, hlb⟩ := ask_facts I hi hf
      have hnl : next.length = n := I.ln
      have hol : of.length = n := I.lo
      have z1 : (0 : Int) ≤ (i : Int) := Int.natCast_nonneg _
      have z2 : (i : Int) < (a.length : Int) := by rw [hal]; exact Int.ofNat_lt.2 hi
      have z3 : (i : Int) < (next.length : Int) := by rw [hnl]; exact Int.ofNat_lt.2 hi
      have z4 : (0 : Int) ≤ (p i : Int) := Int.natCast_nonneg _
      have z5 : (p i : Int) < ((rd_L2 a (i : Int)).length : Int) := by rw [hla]; exact Int.ofNat_lt.2 hp
      have z6 : (0 : Int) ≤ (kk : Int) := Int.natCast_nonneg _
      have z7 : (kk : Int) < (of.length : Int) := by rw [hol]; exact Int.ofNat_lt.2 hkn
      have z8 : (kk : Int) < (b.length : Int) := by rw [hbl]; exact Int.ofNat_lt.2 hkn
      have hw : wrap64 ((p i : Int) + 1) = (p i : Int) + 1 := w64 (by omega) (by omega)
      have hsum : (next.set i ((p i : Int) + 1)).sum + (e : Int) = (n : Int) * (n : Int) + 1 := by
        rw [sum_set next i (by omega), hnx]; omega
      have hrd0 : rd ((i : Int) :: rest) 0 = (i : Int) := by simp [rd]
      have q1 : ((((i : Int) :: rest).length : Nat) : Int) > 0 := by rw [List.length_cons]; exact Int.ofNat_lt.2 (Nat.succ_pos _)
      have q2 : (1 : Int) ≤ ((((i : Int) :: rest).length : Nat) : Int) := q1
      have q3 : ((i : Int) :: rest).drop (1 : Int).toNat = rest := rfl
      have q4 : rest.length < 17592186044416 := Nat.lt_of_lt_of_le (Nat.lt_of_lt_of_le (Nat.lt_succ_self _) (by rw [List.length_cons] at hfl; exact hfl)) (Nat.le_trans hn (by decide))
      have head : ∀ k, spec_maStable.l2 (k + 1) a b (n : Int) next of ((i : Int) :: rest) = (if rd of (kk : Int) < 0 then spec_maStable.l2 k a b (n : Int) (next.set i ((p i : Int) + 1)) (of.set kk (i : Int)) rest else ((spec_maRank.f k (rd_L2 b (kk : Int)) (i : Int)).bind fun t202 => ((spec_maRank.f k (rd_L2 b (kk : Int)) (rd of (kk : Int))).bind fun t204 => (if t202 < t204 then spec_maStable.l2 k a b (n : Int) (next.set i ((p i : Int) + 1)) (of.set kk (i : Int)) (rest ++ [rd of (kk : Int)]) else spec_maStable.l2 k a b (n : Int) (next.set i ((p i : Int) + 1)) of (rest ++ [(i : Int)]))))) := fun k => by
        simp only [spec_maStable.l2, hrd0, q3]
        rw [if_pos q1, if_pos q1, if_pos q2]
        simp only [Option.bind_some]
        rw [if_pos z1, if_pos z2, if_pos z3, hnx, if_pos z4, if_pos z5]
        rw [hka, Int.toNat_natCast, Int.toNat_natCast, hw]
        rw [if_pos z6, if_pos z7]
        by_cases g : rd of (kk : Int) < 0
        · rw [if_pos g, if_pos g]
        · rw [if_neg g, if_neg g, if_pos z8]
          simp only [q4, if_true]
      cases hk : h kk with
      | none =>
        have e1 := I.hno kk hkn hk
        have I2 := (I.take hi hf (by rw [← hkk]; exact hk)).iff (F' := fun t => (t : Int) ∈ rest) (fun t ht => by
          rw [List.mem_cons]
          constructor
          · intro ⟨h1, h2⟩; exact h1.resolve_left (by omega)
          · intro h1; exact ⟨.inr h1, fun e2 => hd.1 (by rw [← e2]; exact h1)⟩)
        rw [← hkk] at I2
        obtain ⟨out, E, K, hK⟩ := ih _ _ rest _ _ hsum hd.2 hrest I2
        refine ⟨out, E, ev_suc K fun k hk2 => ?_⟩
        rw [head k, if_pos (by omega)]
        exact hK k hk2
      | some j =>
        have e1 := I.hso kk j hkn hk
        obtain ⟨hj, _, _⟩ := I.H.held kk j hkn hk
        have hj' : j < n := hj
        have m1 := (perm_facts (row_match hbl hb kk hkn)).2 i hi
        have m2 := (perm_facts (row_match hbl hb kk hkn)).2 j hj'
        have hrl : (rowOf b kk).length ≤ 1048576 := by unfold rowOf; omega
        obtain ⟨⟨K1, r1⟩, _⟩ := rank_pos (rowOf b kk) hrl (i : Int) m1.2.2
        obtain ⟨⟨K2, r2⟩, _⟩ := rank_pos (rowOf b kk) hrl (j : Int) m2.2.2
        have hij : i ≠ j := fun e2 => (I.fr i hi).1 hf kk hkn (by rw [hk, e2])
        have hjf : ¬ (j : Int) ∈ ((i : Int) :: rest) := fun hm => (I.fr j hj).1 hm kk hkn hk
        by_cases g : pos (rowOf b kk) (i : Int) < pos (rowOf b kk) (j : Int)
        · have I2 := (I.turn hi hf (by rw [← hkk]; exact hk) (by rw [← hkk]; exact g)).iff (F' := fun t => (t : Int) ∈ rest ++ [(j : Int)]) (fun t ht => by
            rw [List.mem_cons, List.mem_append, List.mem_singleton]
            constructor
            · rintro (⟨h1, h2⟩ | h1)
              · exact .inl (h1.resolve_left (by omega))
              · exact .inr (by omega)
            · rintro (h1 | h1)
              · exact .inl ⟨.inr h1, fun e2 => hd.1 (by rw [← e2]; exact h1)⟩
              · exact .inr (by omega))
          rw [← hkk] at I2
          obtain ⟨out, E, K, hK⟩ := ih _ _ (rest ++ [(j : Int)]) _ _ hsum (by
            rw [List.nodup_append]
            refine ⟨hd.2, by simp, fun x hx y hy e2 => ?_⟩
            rw [List.mem_singleton] at hy
            exact hjf (List.mem_cons_of_mem _ (by rw [← hy, ← e2]; exact hx))) (fun x hx => by
            rcases List.mem_append.1 hx with hx | hx
            · exact hrest x hx
            · rw [List.mem_singleton] at hx; omega) I2
          refine ⟨out, E, ev_suc (K + K1 + K2) fun k hk2 => ?_⟩
          have q1 := r1 k (by omega)
          have q2 := r2 k (by omega)
          unfold rowOf at q1 q2
          rw [head k, if_neg (by omega), e1, q1, q2]
          simp only [Option.bind_some]
          unfold rowOf at g
          rw [if_pos (by omega)]
          exact hK k (by omega)
        · have g2 : pos (rowOf b kk) (j : Int) < pos (rowOf b kk) (i : Int) := by
            rcases Nat.lt_or_ge (pos (rowOf b kk) (j : Int)) (pos (rowOf b kk) (i : Int)) with h1 | h1
            · exact h1
            · exact absurd ((sidesOf a b n hal hbl ha hb).rb_inj kk i j hkn hi hj' (show pos (rowOf b kk) (i : Int) = pos (rowOf b kk) (j : Int) by omega)) hij
          have I2 := (I.refuse hi hf (by rw [← hkk]; exact hk) (by rw [← hkk]; exact g2)).iff (F' := fun t => (t : Int) ∈ rest ++ [(i : Int)]) (fun t ht => by
            rw [List.mem_cons, List.mem_append, List.mem_singleton, Or.comm])
          obtain ⟨out, E, K, hK⟩ := ih _ _ (rest ++ [(i : Int)]) _ _ hsum (by
            rw [List.nodup_append]
            refine ⟨hd.2, by simp, fun x hx y hy e2 => ?_⟩
            rw [List.mem_singleton] at hy
            exact hd.1 (by rw [← hy, ← e2]; exact hx)) (fun x hx => by
            rcases List.mem_append.1 hx with hx | hx
            · exact hrest x hx
            · rw [List.mem_singleton] at hx; omega) I2
          refine ⟨out, E, ev_suc (K + K1 + K2) fun k hk2 => ?_⟩
          have q1 := r1 k (by omega)
          have q2 := r2 k (by omega)
          unfold rowOf at q1 q2
          rw [head k, if_neg (by omega), e1, q1, q2]
          simp only [Option.bind_some]
          unfold rowOf at g
          rw [if_neg (by omega)]
          exact hK k (by omega)
/-- What the program's lists tell while it asks. -/
structure II (S : Sides) (mt asked holds : List Int) (F : Nat → Prop) (p : Nat → Nat) (h : Nat → Option Nat) : Prop where
  I : SI S asked holds F p h
  lm : mt.length = S.n
  mt : ∀ t, t < S.n → ¬ F t → rd mt (t : Int) = (S.pa t (p t) : Int)
set_option maxHeartbeats 4000000 in
theorem impl_ask : ∀ (d i : Nat), i + d = n → ∀ (mt asked holds : List Int) (p : Nat → Nat) (h : Nat → Option Nat), II (sidesOf a b n hal hbl ha hb) mt asked holds (fun t => i ≤ t) p h → ∃ out, Ends (sidesOf a b n hal hbl ha hb) out ∧ ∃ K, ∀ k, K ≤ k → impl_StableMatch.l1 k a b mt holds asked (i : Int) = some (out, true) := by
  have hSn : (sidesOf a b n hal hbl ha hb).n = n := rfl
  intro d
  induction d with
  | zero =>
    intro i hi mt asked holds p h I
    have D := I.I.done (fun t ht hf => by have : t < n := ht; have : i ≤ t := hf; omega)
    refine ⟨mt, ⟨I.lm, p, h, D, fun t ht => I.mt t ht (fun hf => by have : t < n := ht; have : i ≤ t := hf; omega)⟩, ev_suc 0 fun k _ => ?_⟩
    simp only [impl_StableMatch.l1]
    rw [if_neg (by omega)]
  | succ d ihd =>
    intro i hi mt asked holds p h I
    have hin : i < n := by omega
    have inner : ∀ (e : Nat) (mt asked holds : List Int) (at_ : Int) (p : Nat → Nat) (h : Nat → Option Nat), asked.sum + (e : Int) = (n : Int) * (n : Int) + 1 → ((at_ = -1 ∧ II (sidesOf a b n hal hbl ha hb) mt asked holds (fun t => i < t) p h) ∨ ∃ t0 : Nat, at_ = (t0 : Int) ∧ t0 ≤ i ∧ II (sidesOf a b n hal hbl ha hb) mt asked holds (fun t => t = t0 ∨ i < t) p h) → ∃ out, Ends (sidesOf a b n hal hbl ha hb) out ∧ ∃ K, ∀ k, K ≤ k → impl_StableMatch.l2 k a b mt holds asked (i : Int) at_ = some (out, true) := by
      intro e
      induction e with
      | zero =>
        intro mt asked holds at_ p h hs hI
        exfalso
        have hz : asked.sum ≤ ((sidesOf a b n hal hbl ha hb).n : Int) * ((sidesOf a b n hal hbl ha hb).n : Int) := by
          rcases hI with ⟨_, I2⟩ | ⟨t0, _, _, I2⟩
          · exact sum_bound I2.I
          · exact sum_bound I2.I
        rw [hSn] at hz
        omega
      | succ e ih =>
        intro mt asked holds at_ p h hs hI
        rcases hI with ⟨rfl, I2⟩ | ⟨t0, rfl, ht0, I2⟩
        · obtain ⟨out, E, K, hK⟩ := ihd (i + 1) (by omega) mt asked holds p h ⟨I2.I.iff (fun t _ => Iff.rfl), I2.lm, I2.mt⟩
          refine ⟨out, E, ev_suc K fun k hk => ?_⟩
          simp only [impl_StableMatch.l2]
          rw [if_neg (by omega), w64s (by omega)]
          exact hK k hk
        · have hi' : t0 < n := by omega
          have hf : t0 = t0 ∨ i < t0 := .inl rfl
          obtain ⟨kk, hkn, hkk, hp, hnx, hla, hka, hlb⟩ := ask_facts I2.I hi' hf
          have hnl : asked.length = n := I2.I.ln
          have hol : holds.length = n := I2.I.lo
          have hml : mt.length = n := I2.lm
          have hsum : (asked.set t0 ((p t0 : Int) + 1)).sum + (e : Int) = (n : Int) * (n : Int) + 1 := by
            rw [sum_set asked t0 (by omega), hnx]; omega
          have z1 : (0 : Int) ≤ (t0 : Int) := Int.natCast_nonneg _
          have z1' : (t0 : Int) ≥ 0 := z1
          have z2 : (t0 : Int) < (a.length : Int) := by rw [hal]; exact Int.ofNat_lt.2 hi'
          have z3 : (t0 : Int) < (asked.length : Int) := by rw [hnl]; exact Int.ofNat_lt.2 hi'
          have z4 : (0 : Int) ≤ (p t0 : Int) := Int.natCast_nonneg _
          have z5 : (p t0 : Int) < ((rd_L2 a (t0 : Int)).length : Int) := by rw [hla]; exact Int.ofNat_lt.2 hp
          have z6 : (0 : Int) ≤ (kk : Int) := Int.natCast_nonneg _
          have z7 : (kk : Int) < (holds.length : Int) := by rw [hol]; exact Int.ofNat_lt.2 hkn
          have z8 : (kk : Int) < (b.length : Int) := by rw [hbl]; exact Int.ofNat_lt.2 hkn
          have z9 : (t0 : Int) < (mt.length : Int) := by rw [hml]; exact Int.ofNat_lt.2 hi'
          have hw : wrap64 ((p t0 : Int) + 1) = (p t0 : Int) + 1 := w64 (by omega) (by omega)
          have head : ∀ k, impl_StableMatch.l2 (k + 1) a b mt holds asked (i : Int) (t0 : Int) = (if rd holds (kk : Int) ≥ 0 then ((slices_Index_int_int.f k (rd_L2 b (kk : Int)) (rd holds (kk : Int))).bind fun t251 => ((slices_Index_int_int.f k (rd_L2 b (kk : Int)) (t0 : Int)).bind fun t253 => (if t251 < t253 then impl_StableMatch.l2 k a b mt holds (asked.set t0 ((p t0 : Int) + 1)) (i : Int) (t0 : Int) else impl_StableMatch.l2 k a b (mt.set t0 (kk : Int)) (holds.set kk (t0 : Int)) (asked.set t0 ((p t0 : Int) + 1)) (i : Int) (rd holds (kk : Int))))) else impl_StableMatch.l2 k a b (mt.set t0 (kk : Int)) (holds.set kk (t0 : Int)) (asked.set t0 ((p t0 : Int) + 1)) (i : Int) (rd holds (kk : Int))) := fun k => by
            simp only [impl_StableMatch.l2]
            rw [if_pos z1', if_pos z1, if_pos z2, if_pos z3, hnx, if_pos z4, if_pos z5]
            simp only [Option.bind_some]
            rw [hka, Int.toNat_natCast, Int.toNat_natCast, hw]
            rw [if_pos z6, if_pos z7]
            by_cases g : rd holds (kk : Int) ≥ 0
            · rw [if_pos g, if_pos g, if_pos z8]
              simp only [z9, if_true]
            · rw [if_neg g, if_neg g, if_pos z9]
          cases hk : h kk with
          | none =>
            have e1 := I2.I.hno kk hkn hk
            have I3 := (I2.I.take hi' hf (by rw [← hkk]; exact hk)).iff (F' := fun t => i < t) (fun t ht => ⟨fun h1 => h1.1.resolve_left h1.2, fun h1 => ⟨.inr h1, by omega⟩⟩)
            have M3 : ∀ t, t < n → ¬ i < t → rd (mt.set t0 (kk : Int)) (t : Int) = ((sidesOf a b n hal hbl ha hb).pa t (p t) : Int) := fun t ht hft => by
              rw [rd_set _ _ _ _ (by omega)]
              by_cases e2 : t0 = t
              · rw [if_pos e2, hkk, e2]
              · rw [if_neg e2]
                exact I2.mt t ht (fun h1 => h1.elim (fun h2 => e2 h2.symm) hft)
            rw [← hkk] at I3
            obtain ⟨out, E, K, hK⟩ := ih (mt.set t0 (kk : Int)) _ _ (-1) _ _ hsum (.inl ⟨rfl, I3, by rw [List.length_set]; exact I2.lm, M3⟩)
            refine ⟨out, E, ev_suc K fun k hk2 => ?_⟩
            rw [head k, if_neg (by omega), e1]
            exact hK k hk2
          | some j =>
            have e1 := I2.I.hso kk j hkn hk
            obtain ⟨hj, _, _⟩ := I2.I.H.held kk j hkn hk
            have hj' : j < n := hj
            have m1 := (perm_facts (row_match hbl hb kk hkn)).2 t0 hi'
            have m2 := (perm_facts (row_match hbl hb kk hkn)).2 j hj'
            have hrl : (rowOf b kk).length ≤ 1048576 := by unfold rowOf; omega
            obtain ⟨_, K1, r1⟩ := rank_pos (rowOf b kk) hrl (t0 : Int) m1.2.2
            obtain ⟨_, K2, r2⟩ := rank_pos (rowOf b kk) hrl (j : Int) m2.2.2
            have hij : t0 ≠ j := fun e2 => (I2.I.fr t0 hi').1 hf kk hkn (by rw [hk, e2])
            have hjf : ¬ (j = t0 ∨ i < j) := fun hm => (I2.I.fr j hj).1 hm kk hkn hk
            by_cases g : pos (rowOf b kk) (j : Int) < pos (rowOf b kk) (t0 : Int)
            · have I3 := I2.I.refuse hi' hf (by rw [← hkk]; exact hk) (by rw [← hkk]; exact g)
              obtain ⟨out, E, K, hK⟩ := ih mt _ _ (t0 : Int) _ _ hsum (.inr ⟨t0, rfl, ht0, I3, I2.lm, fun t ht hft => by
                rw [if_neg (fun e2 => hft (.inl e2))]
                exact I2.mt t ht hft⟩)
              refine ⟨out, E, ev_suc (K + K1 + K2) fun k hk2 => ?_⟩
              have q1 := r1 k (by omega)
              have q2 := r2 k (by omega)
              unfold rowOf at q1 q2 g
              rw [head k, e1, if_pos (by omega), q2, q1]
              simp only [Option.bind_some]
              rw [if_pos (by omega)]
              exact hK k (by omega)
            · have g2 : pos (rowOf b kk) (t0 : Int) < pos (rowOf b kk) (j : Int) := by
                rcases Nat.lt_or_ge (pos (rowOf b kk) (t0 : Int)) (pos (rowOf b kk) (j : Int)) with h1 | h1
                · exact h1
                · exact absurd ((sidesOf a b n hal hbl ha hb).rb_inj kk t0 j hkn hi' hj' (show pos (rowOf b kk) (t0 : Int) = pos (rowOf b kk) (j : Int) by omega)) hij
              have I3 := (I2.I.turn hi' hf (by rw [← hkk]; exact hk) (by rw [← hkk]; exact g2)).iff (F' := fun t => t = j ∨ i < t) (fun t ht => by
                constructor
                · rintro (⟨h1, h2⟩ | h1)
                  · exact .inr (h1.resolve_left h2)
                  · exact .inl h1
                · rintro (h1 | h1)
                  · exact .inr h1
                  · exact .inl ⟨.inr h1, by omega⟩)
              have M3 : ∀ t, t < n → ¬ (t = j ∨ i < t) → rd (mt.set t0 (kk : Int)) (t : Int) = ((sidesOf a b n hal hbl ha hb).pa t (if t = j then p j + 1 else p t) : Int) := fun t ht hft => by
                rw [if_neg (fun e2 => hft (.inl e2)), rd_set _ _ _ _ (by omega)]
                by_cases e2 : t0 = t
                · rw [if_pos e2, hkk, e2]
                · rw [if_neg e2]
                  exact I2.mt t ht (fun h1 => h1.elim (fun h2 => e2 h2.symm) (fun h2 => hft (.inr h2)))
              rw [← hkk] at I3
              obtain ⟨out, E, K, hK⟩ := ih (mt.set t0 (kk : Int)) _ _ (j : Int) _ _ hsum (.inr ⟨j, rfl, by omega, I3, by rw [List.length_set]; exact I2.lm, M3⟩)
              refine ⟨out, E, ev_suc (K + K1 + K2) fun k hk2 => ?_⟩
              have q1 := r1 k (by omega)
              have q2 := r2 k (by omega)
              unfold rowOf at q1 q2 g
              rw [head k, e1, if_pos (by omega), q2, q1]
              simp only [Option.bind_some]
              rw [if_neg (by omega)]
              exact hK k (by omega)
    have hsb := sum_bound I.I
    rw [hSn] at hsb
    obtain ⟨e, he⟩ := Int.eq_ofNat_of_zero_le (show 0 ≤ (n : Int) * (n : Int) + 1 - asked.sum by omega)
    obtain ⟨out, E, K, hK⟩ := inner e mt asked holds (i : Int) p h (by omega) (.inr ⟨i, rfl, Nat.le_refl _, I.I.iff (fun t _ => ⟨fun (h1 : i ≤ t) => (show t = i ∨ i < t by omega), fun (h1 : t = i ∨ i < t) => (show i ≤ t by omega)⟩), I.lm, fun t ht hft => I.mt t ht (fun h1 => hft (by have h1' : i ≤ t := h1; omega))⟩)
    refine ⟨out, E, ev_suc K fun k hk => ?_⟩
    simp only [impl_StableMatch.l1]
    rw [if_pos (by omega)]
    exact hK k hk
omit hn in
theorem si_start (of next : List Int) (hof : of = List.replicate n (-1)) (hnx : next = List.replicate n 0) : SI (sidesOf a b n hal hbl ha hb) next of (fun _ => True) (fun _ => 0) (fun _ => none) := by
  subst hof hnx
  refine ⟨asked_start _, by simp [sidesOf], by simp [sidesOf], fun k hk _ => ?_, (fun k i _ h => by cases h), fun i _ => ⟨(fun _ k _ h => by cases h), fun _ => trivial⟩, fun i hi _ => ?_, fun i _ h => absurd trivial h⟩
  · have : k < n := hk
    rw [rd_nat _ _ (by simpa using this)]; simp
  · have : i < n := hi
    rw [rd_nat _ _ (by simpa using this)]; simp
theorem spec_stable : ∃ out, Ends (sidesOf a b n hal hbl ha hb) out ∧ ∃ K, ∀ k, K ≤ k → spec_maStable.f k a b = some out := by
  have hI := si_start hal hbl ha hb (List.replicate n (-1)) (List.replicate n 0) rfl rfl
  have hfr : ∀ m, (((List.range m).map fun (j : Nat) => (j : Int))).Nodup := fun m => by
    rw [List.nodup_iff_pairwise_ne, List.pairwise_map]
    exact List.Pairwise.imp (fun h e => h (by omega)) (List.nodup_iff_pairwise_ne.1 List.nodup_range)
  have hI2 := hI.iff (F' := fun t => (t : Int) ∈ (List.range n).map fun (j : Nat) => (j : Int)) (fun t ht => ⟨fun _ => List.mem_map.2 ⟨t, List.mem_range.2 ht, rfl⟩, fun _ => trivial⟩)
  obtain ⟨out, E, K, hK⟩ := spec_ask hn hal hbl ha hb (n * n + 1) (List.replicate n 0) (List.replicate n (-1)) ((List.range n).map fun (j : Nat) => (j : Int)) _ _ (by rw [List.sum_replicate_int]; simp) (hfr n) (fun x hx => by obtain ⟨j, hj, rfl⟩ := List.mem_map.1 hx; have := List.mem_range.1 hj; omega) hI2
  have h1 := ev_loop (F := fun k i => spec_maStable.l1 k a b (n : Int) (List.replicate n 0) (List.replicate n (-1)) ((List.range i).map fun (j : Nat) => (j : Int)) (n : Int) (i : Int)) (n := n) (res := fun _ => out)
    (ev_suc K fun k hk => by simp only [spec_maStable.l1]; rw [if_neg (by omega)]; exact hK k hk)
    (fun i hi K hK => ev_suc K fun k hk => by
      simp only [spec_maStable.l1]
      rw [if_pos (by omega), if_pos (by simp; omega), w64s (by omega)]
      have := hK k hk
      rw [List.range_succ, List.map_append] at this
      exact this) 0 (Nat.zero_le _)
  obtain ⟨K1, h1⟩ := h1
  have h2 := ev_loop (F := fun k i => spec_maStable.l0 k a b (n : Int) (List.replicate n 0) ((List.replicate n (-1)).take i ++ List.replicate ((List.replicate n (-1 : Int)).length - i) 0) (n : Int) (i : Int)) (n := n) (res := fun _ => out)
    (ev_suc K1 fun k hk => by
      simp only [spec_maStable.l0]
      rw [if_neg (by omega)]
      have := h1 k hk
      rw [hal]
      simpa using this)
    (fun i hi K hK => ev_suc K fun k hk => by
      have hil : i < (List.replicate n (-1 : Int)).length := by simpa using hi
      have h3 := fill_step (List.replicate n (-1 : Int)) 0 i hil
      rw [List.getElem_replicate] at h3
      simp only [spec_maStable.l0]
      rw [if_pos (by omega), if_pos (by omega), if_pos (by rw [fill_length _ _ _ (by omega)]; simp; omega), Int.toNat_natCast, h3, w64s (by omega)]
      exact hK k hk) 0 (Nat.zero_le _)
  obtain ⟨K2, h2⟩ := h2
  refine ⟨out, E, K2, fun k hk => ?_⟩
  unfold spec_maStable.f
  rw [hal, if_pos (by omega), if_pos (by omega), Int.toNat_natCast]
  simp only [Option.bind_some]
  have := h2 k hk
  simpa using this
theorem impl_stable : ∃ out, Ends (sidesOf a b n hal hbl ha hb) out ∧ ∃ K, ∀ k, K ≤ k → impl_StableMatch.l0 k a b (List.replicate n 0) (List.replicate n 0) (n : Int) 0 = some (out, true) := by
  have hI := si_start hal hbl ha hb (List.replicate n (-1)) (List.replicate n 0) rfl rfl
  obtain ⟨out, E, K, hK⟩ := impl_ask hn hal hbl ha hb n 0 (by omega) (List.replicate n (-1)) (List.replicate n 0) (List.replicate n (-1)) _ _ ⟨hI.iff (F' := fun t => 0 ≤ t) (fun t _ => ⟨fun _ => Nat.zero_le _, fun _ => trivial⟩), by simp [sidesOf], fun t _ hf => absurd (Nat.zero_le _) hf⟩
  have h2 := ev_loop (F := fun k i => impl_StableMatch.l0 k a b ((List.replicate n (-1)).take i ++ List.replicate ((List.replicate n (-1 : Int)).length - i) 0) ((List.replicate n (-1)).take i ++ List.replicate ((List.replicate n (-1 : Int)).length - i) 0) (n : Int) (i : Int)) (n := n) (res := fun _ => (out, true))
    (ev_suc K fun k hk => by
      simp only [impl_StableMatch.l0]
      rw [if_neg (by omega), if_pos (by omega), if_pos (by omega), hal, Int.toNat_natCast]
      have := hK k hk
      simpa using this)
    (fun i hi K hK => ev_suc K fun k hk => by
      have hil : i < (List.replicate n (-1 : Int)).length := by simpa using hi
      have h3 := fill_step (List.replicate n (-1 : Int)) 0 i hil
      rw [List.getElem_replicate] at h3
      simp only [impl_StableMatch.l0]
      rw [if_pos (by omega), if_pos (by omega), if_pos (by rw [fill_length _ _ _ (by omega)]; simp; omega), if_pos (by rw [fill_length _ _ _ (by omega)]; simp; omega), Int.toNat_natCast, h3, w64s (by omega)]
      exact hK k hk) 0 (Nat.zero_le _)
  obtain ⟨K2, h2⟩ := h2
  exact ⟨out, E, K2, fun k hk => by have := h2 k hk; simpa using this⟩
end
theorem stable_both (a b : List (List Int)) (hla : a.length ≤ 1048576) (hxa : ∀ x ∈ a, x.length ≤ 1048576) (hlb : b.length ≤ 1048576) (hxb : ∀ x ∈ b, x.length ≤ 1048576) : ∃ (g : List Int) (x : Bool), (∃ K, ∀ k, K ≤ k → spec_StableMatch.f k a b = some (g, x)) ∧ (∃ K, ∀ k, K ≤ k → impl_StableMatch.f k a b = some (g, x)) ∧ g.length ≤ 7 ∧ x = sidesOk a b ∧ (sidesOk a b = true → ∃ (hal : a.length = a.length) (hbl : b.length = a.length) (ha : ∀ x ∈ a, isMatchP x (a.length : Int)) (hb : ∀ x ∈ b, isMatchP x (a.length : Int)), Ends (sidesOf a b a.length hal hbl ha hb) g) := by
  obtain ⟨⟨K1, h1⟩, K2, h2⟩ := sides_both a b hla hxa hlb hxb
  by_cases hc : sidesOk a b = true
  · have hs := hc
    unfold sidesOk at hs
    simp only [Bool.and_eq_true, decide_eq_true_eq] at hs
    obtain ⟨p1, p2, p3⟩ := hs
    obtain ⟨a1, a2, a3⟩ := (prefsOk_iff a).1 p1
    obtain ⟨b1, b2, b3⟩ := (prefsOk_iff b).1 p2
    have hb : ∀ x ∈ b, isMatchP x (a.length : Int) := fun x hx => by rw [p3]; exact b1 x hx
    obtain ⟨g, E, K3, h3⟩ := spec_stable a3 rfl p3.symm a1 hb
    obtain ⟨g2, E2, K4, h4⟩ := impl_stable a3 rfl p3.symm a1 hb
    have eg := ends_one E E2
    subst eg
    refine ⟨g, true, ⟨K1 + K3, fun k hk => ?_⟩, ⟨K2 + K4, fun k hk => ?_⟩, by have := E.len; have e : (sidesOf a b a.length rfl p3.symm a1 hb).n = a.length := rfl; omega, hc.symm, fun _ => ⟨rfl, p3.symm, a1, hb, E⟩⟩
    · unfold spec_StableMatch.f
      rw [h1 k (by omega)]
      simp only [Option.bind_some]
      rw [if_pos hc, h3 k (by omega)]
      rfl
    · unfold impl_StableMatch.f
      rw [h2 k (by omega)]
      simp only [Option.bind_some]
      rw [if_pos hc, ← p3, if_pos (by omega), if_pos (by omega), if_pos (by omega), if_pos (by omega), Int.toNat_natCast]
      exact h4 k (by omega)
  · refine ⟨[], false, ⟨K1, fun k hk => ?_⟩, ⟨K2, fun k hk => ?_⟩, by simp, (Bool.eq_false_iff.mpr hc).symm, fun h => absurd h hc⟩
    · unfold spec_StableMatch.f
      rw [h1 k hk]
      simp only [Option.bind_some]
      rw [if_neg hc]
    · unfold impl_StableMatch.f
      rw [h2 k hk]
      simp only [Option.bind_some]
      rw [if_neg hc]
/-! The draws: every byte string gives some numbers. -/
def bytes (l : List Int) : Prop := ∀ x ∈ l, 0 ≤ x ∧ x ≤ 255
theorem bytes_of {l : List Int} (h : ∀ x ∈ l, (Lit.int .u8 x).wf = true) : bytes l := by
  exact fun x hx => bounds_u8 (h x hx)
theorem and255 (a : Int) : 0 ≤ Go.bits .and .u64 (IntKind.u64.wrap a / 1099511627776) 255 ∧ Go.bits .and .u64 (IntKind.u64.wrap a / 1099511627776) 255 ≤ 255 := by
  have hw : 0 ≤ IntKind.u64.wrap a ∧ IntKind.u64.wrap a ≤ 18446744073709551615 := bounds_u64 (wf_wrap .u64 a)
  obtain ⟨n, hn⟩ : ∃ n : Nat, IntKind.u64.wrap a / 1099511627776 = (n : Int) := ⟨(IntKind.u64.wrap a / 1099511627776).toNat, by omega⟩
  rw [hn, show (255 : Int) = ((255 : Nat) : Int) from rfl, bits_and_u64_nat n 255 (by omega) (by omega)]
  have := Nat.and_le_right (n := n) (m := 255)
  omega
theorem next_ok {l : List Int} (hl : bytes l) (hn : l.length ≤ maxLen) {p : Int} (s : Int) (h0 : 0 ≤ p) (h1 : p ≤ 4000000000000000000) : ∃ b s', spec_l1Cur_next.f l p s = some (b, p + 1, s') ∧ 0 ≤ b ∧ b ≤ 255 := by
  unfold maxLen at hn
  unfold spec_l1Cur_next.f
  rw [w64 (x := p + 1) (by omega) (by omega)]
  have ha : ∀ a : Int, 0 ≤ wrap64 (Go.bits .and .u64 (IntKind.u64.wrap a / 1099511627776) 255) ∧ wrap64 (Go.bits .and .u64 (IntKind.u64.wrap a / 1099511627776) 255) ≤ 255 := by
    intro a
    have := and255 a
    rw [w64 (by omega) (by omega)]
    exact this
  by_cases c : p < (l.length : Int)
  · obtain ⟨q, rfl⟩ : ∃ q : Nat, p = (q : Int) := ⟨p.toNat, by omega⟩
    have hb := hl _ (List.getElem_mem (by omega : q < l.length))
    rw [if_pos c, if_pos h0, rd_nat l q (by omega)]
    have e : wrap64 l[q] = l[q] := w64 (by omega) (by omega)
    split
    · exact ⟨_, _, rfl, by rw [e]; exact hb.1, by rw [e]; exact hb.2⟩
    · exact ⟨_, _, rfl, (ha _).1, (ha _).2⟩
  · rw [if_neg c]
    split
    · exact ⟨_, _, rfl, by omega, by omega⟩
    · exact ⟨_, _, rfl, (ha _).1, (ha _).2⟩
theorem pick_ok {l : List Int} (hl : bytes l) (hn : l.length ≤ maxLen) {p : Int} (s n : Int) (h0 : 0 ≤ p) (h1 : p ≤ 4000000000000000000 - 2) : ∃ x p' s', spec_l1Cur_pick.f l p s n = some (x, p', s') ∧ 0 ≤ x ∧ (x < n ∨ x = 0) ∧ x ≤ 65535 ∧ p ≤ p' ∧ p' ≤ p + 2 := by
  unfold spec_l1Cur_pick.f
  by_cases c : n ≤ 1
  · rw [if_pos c]
    exact ⟨_, _, _, rfl, by omega, .inr rfl, by omega, by omega, by omega⟩
  · rw [if_neg c]
    obtain ⟨b, s1, e1, b0, b1⟩ := next_ok hl hn s h0 (by omega)
    rw [e1]
    simp only [Option.bind_some]
    by_cases c2 : n > 200
    · obtain ⟨b', s2, e2, b2, b3⟩ := next_ok hl hn s1 (p := p + 1) (by omega) (by omega)
      rw [if_pos c2, e2]
      simp only [Option.bind_some]
      rw [if_neg (by omega), w64 (x := b * 256) (by omega) (by omega), w64 (by omega) (by omega), Int.tmod_eq_emod_of_nonneg (by omega)]
      have := Int.emod_nonneg (b * 256 + b') (b := n) (by omega)
      have := Int.emod_lt_of_pos (b * 256 + b') (b := n) (by omega)
      have := Int.mul_ediv_add_emod (b * 256 + b') n
      have := Int.mul_nonneg (a := n) (b := (b * 256 + b') / n) (by omega) (Int.ediv_nonneg (by omega) (by omega))
      exact ⟨_, _, _, rfl, by omega, .inl (by omega), by omega, by omega, by omega⟩
    · rw [if_neg c2, if_neg (by omega), Int.tmod_eq_emod_of_nonneg (by omega)]
      have := Int.emod_nonneg b (b := n) (by omega)
      have := Int.emod_lt_of_pos b (b := n) (by omega)
      exact ⟨_, _, _, rfl, by omega, .inl (by omega), by omega, by omega, by omega⟩
theorem among_ok {l : List Int} (hl : bytes l) (hn : l.length ≤ maxLen) {p : Int} (s : Int) (xs : List Int) (hx : xs ≠ []) (h0 : 0 ≤ p) (h1 : p ≤ 4000000000000000000 - 2) : ∃ x p' s', spec_l1Cur_among.f l p s xs = some (x, p', s') ∧ x ∈ xs ∧ p ≤ p' ∧ p' ≤ p + 2 := by
  unfold spec_l1Cur_among.f
  obtain ⟨x, p', s', e, x0, x1, _, p0, p1⟩ := pick_ok hl hn s (xs.length : Int) h0 h1
  have hp := List.length_pos_iff.2 hx
  obtain ⟨q, rfl⟩ : ∃ q : Nat, x = (q : Int) := ⟨x.toNat, by omega⟩
  rw [e]
  simp only [Option.bind_some]
  rw [if_pos x0, if_pos (by omega), rd_nat xs q (by omega)]
  exact ⟨_, _, _, rfl, List.getElem_mem _, p0, p1⟩

theorem one_ok {l : List Int} (hl : bytes l) (hn : l.length ≤ maxLen) {p : Int} (s n : Int) (h0 : 0 ≤ p) (h1 : p ≤ 3000000000000000000) : ∃ x p' s', spec_l1Cur_one.f l p s n = some (x, p', s') ∧ p ≤ p' ∧ p' ≤ p + 2 := by
  unfold spec_l1Cur_one.f
  obtain ⟨x, p', s', e, _, _, _, q, r⟩ := pick_ok hl hn s n h0 (by omega)
  rw [e]; exact ⟨_, _, _, rfl, q, r⟩
theorem side_ok {l : List Int} (hl : bytes l) (hn : l.length ≤ maxLen) {p : Int} (s : Int) (h0 : 0 ≤ p) (h1 : p ≤ 2000000000000000000) : ∃ x p' s', spec_l1Cur_side.f l p s = some (x, p', s') ∧ 1 ≤ x ∧ x ≤ 8 ∧ p ≤ p' ∧ p' ≤ p + 6 := by
  unfold spec_l1Cur_side.f
  obtain ⟨x1, p1, s1, e1, a1, b1, _, q1, r1⟩ := pick_ok hl hn s 5 h0 (by omega)
  obtain ⟨x2, p2, s2, e2, q2, r2⟩ := one_ok hl hn s1 30 (p := p1) (by omega) (by omega)
  obtain ⟨x3, p3, s3, e3, a3, b3, _, q3, r3⟩ := pick_ok hl hn s2 2 (p := p2) (by omega) (by omega)
  simp only [e1, e2, e3, Option.bind_some]
  by_cases c : x2 = true
  · rw [if_pos c, w64 (by omega) (by omega)]
    exact ⟨_, _, _, rfl, by omega, by omega, by omega, by omega⟩
  · rw [if_neg c, w64 (by omega) (by omega)]
    exact ⟨_, _, _, rfl, by omega, by omega, by omega, by omega⟩
theorem perm_go {l : List Int} (hl : bytes l) (hn : l.length ≤ maxLen) : ∀ (d i : Nat) (x : List Int) (p s : Int), x.length = i → i + d ≤ 1000 → 0 ≤ p → p ≤ 2000000000000000000 - 2 * (d : Int) → ∃ y p' s', spec_l1Cur_permuted.go l d i x p s = some (y, p', s') ∧ y.length = i + d ∧ p ≤ p' ∧ p' ≤ p + 2 * (d : Int) := by
  intro d
  induction d with
  | zero => intro i x p s hx _ _ _; exact ⟨x, p, s, rfl, by omega, by omega, by omega⟩
  | succ d ih =>
    intro i x p s hx hd h0 h1
    obtain ⟨b, p1, s1, e1, a1, b1, _, q1, r1⟩ := pick_ok hl hn s ((i : Int) + 1) h0 (by omega)
    obtain ⟨y, p2, s2, e2, a2, q2, r2⟩ := ih (i + 1) (x.take b.toNat ++ [(i : Int)] ++ x.drop b.toNat) p1 s1 (by simp; omega) (by omega) (by omega) (by omega)
    simp only [spec_l1Cur_permuted.go]
    rw [e1]
    simp only [Option.bind_some]
    rw [if_pos ⟨a1, by omega⟩]
    exact ⟨y, p2, s2, e2, by omega, by omega, by omega⟩
theorem permuted_ok {l : List Int} (hl : bytes l) (hn : l.length ≤ maxLen) {p : Int} (s : Int) {n : Int} (h0 : 0 ≤ p) (h1 : p ≤ 1000000000000000000) (hb : n ≤ 100) : ∃ y p' s', spec_l1Cur_permuted.f l p s n = some (y, p', s') ∧ y.length = n.toNat ∧ p ≤ p' ∧ p' ≤ p + 200 := by
  unfold spec_l1Cur_permuted.f
  obtain ⟨y, p', s', e, a, q, r⟩ := perm_go hl hn n.toNat 0 [] p s rfl (by omega) h0 (by omega)
  rw [if_pos (by omega)]
  exact ⟨y, p', s', e, by omega, q, by omega⟩
theorem matchOf_ok {l : List Int} (hl : bytes l) (hn : l.length ≤ maxLen) {p : Int} (s : Int) {n : Int} (h0 : 0 ≤ p) (h1 : p ≤ 1000000000000000000) (hb0 : 0 ≤ n) (hb : n ≤ 100) : ∃ y p' s', spec_l1Cur_matchOf.f l p s n = some (y, p', s') ∧ y.length ≤ 101 ∧ p ≤ p' ∧ p' ≤ p + 202 := by
  unfold spec_l1Cur_matchOf.f
  obtain ⟨y, p1, s1, e1, a1, q1, r1⟩ := permuted_ok hl hn s h0 h1 hb
  obtain ⟨b, p2, s2, e2, _, _, _, q2, r2⟩ := pick_ok hl hn s1 24 (p := p1) (by omega) (by omega)
  simp only [e1, e2, Option.bind_some]
  by_cases c0 : b = 0
  · rw [if_pos c0, if_pos (by omega)]
    exact ⟨_, _, _, rfl, by simp; omega, by omega, by omega⟩
  · rw [if_neg c0]
    by_cases c1 : b = 1
    · rw [if_pos c1]
      by_cases c2 : n > 1
      · rw [if_pos c2, if_pos (by omega), if_pos (by omega)]
        exact ⟨_, _, _, rfl, by simp; omega, by omega, by omega⟩
      · rw [if_neg c2]
        exact ⟨_, _, _, rfl, by omega, by omega, by omega⟩
    · rw [if_neg c1]
      exact ⟨_, _, _, rfl, by omega, by omega, by omega⟩
theorem qIntsM_ev (l : List Int) (hl : l.length ≤ 1048576) : ∃ K, ∀ k, K ≤ k → laws_qInts.f k l l = some true := by
  have h := ev_loop (F := fun k i => laws_qInts.l0 k l l (l.length : Int) (i : Int)) (n := l.length) (res := fun _ => true)
    (ev_suc 0 fun k _ => by simp only [laws_qInts.l0]; rw [if_neg (by omega)])
    (fun i hi K hK => ev_suc K fun k hk => by
      have h2 := hK k hk
      simp only [laws_qInts.l0]
      rw [if_pos (by omega), if_pos (by omega), if_pos (by omega), if_pos (by omega), if_pos trivial, w64s (by omega)]
      exact h2) 0 (Nat.zero_le _)
  obtain ⟨K, h⟩ := h
  refine ⟨K, fun k hk => ?_⟩
  unfold laws_qInts.f
  rw [if_pos rfl]
  exact h k hk
theorem match_allM {m : List Int} (hp : isMatchP m (m.length : Int)) (j : Nat) (hj : j < m.length) : (j : Int) ∈ m := by
  obtain ⟨_, h2, h3⟩ := hp
  apply Classical.byContradiction
  intro hn
  have h5 := nodup_len ((j : Int) :: m) ((List.range m.length).map fun (i : Nat) => (i : Int)) (List.nodup_cons.2 ⟨hn, h3⟩) (fun x hx => by
    rcases List.mem_cons.1 hx with rfl | hx
    · exact List.mem_map.2 ⟨j, List.mem_range.2 hj, rfl⟩
    · have := h2 x hx
      exact List.mem_map.2 ⟨x.toNat, List.mem_range.2 (by omega), by omega⟩)
  simp at h5
  omega
theorem rd_set2 (l : List Int) (i j : Nat) (x : Int) (hj : j < l.length) : rd (l.set i x) (j : Int) = if i = j then x else rd l (j : Int) := by
  unfold rd
  simp only [Int.toNat_natCast, List.getD_eq_getElem?_getD, List.getElem?_set]
  by_cases h : i = j
  · subst h; simp [hj]
  · simp [h]
theorem swapTo_at (m : List Int) (hp : isMatchP m (m.length : Int)) : ∀ n, n ≤ m.length → ∀ i, i < n → rd (swapTo m n) (rd m (i : Int)) = (i : Int) := by
  intro n
  induction n with
  | zero => intro _ i h; omega
  | succ n ih =>
    intro hn i hi
    obtain ⟨_, h2, h3⟩ := hp
    have hr : ∀ j, j < m.length → ∃ q : Nat, rd m (j : Int) = (q : Int) ∧ q < m.length ∧ m[j]? = some (q : Int) := by
      intro j hj
      have e : rd m (j : Int) = m[j] := rd_nat m j hj
      have := h2 _ (List.getElem_mem hj)
      exact ⟨(m[j]).toNat, by omega, by omega, by rw [List.getElem?_eq_getElem hj]; congr 1; omega⟩
    obtain ⟨q, e1, e2, e3⟩ := hr i (by omega)
    obtain ⟨r, f1, f2, f3⟩ := hr n (by omega)
    simp only [swapTo]
    rw [f1, e1, Int.toNat_natCast, rd_set2 _ _ _ _ (by rw [swapTo_length]; exact e2)]
    by_cases hc : r = q
    · rw [if_pos hc]
      by_cases hin : i = n
      · rw [hin]
      · exfalso
        subst hc
        have := (List.pairwise_iff_getElem.1 h3) i n (by omega) (by omega) (by omega)
        rw [List.getElem?_eq_getElem (by omega)] at e3 f3
        exact this ((Option.some.inj e3).trans (Option.some.inj f3).symm)
    · rw [if_neg hc, ← e1]
      by_cases hin : i = n
      · exfalso; subst hin; rw [e1] at f1; omega
      · exact ih (by omega) i (by omega)
theorem swap_back (m : List Int) (hp : isMatchP m (m.length : Int)) : isMatchP (swapTo m m.length) (m.length : Int) ∧ swapTo (swapTo m m.length) m.length = m := by
  have hl : (swapTo m m.length).length = m.length := swapTo_length m _
  have hat := swapTo_at m hp m.length (Nat.le_refl _)
  have hidx : ∀ j, j < m.length → ∃ i, i < m.length ∧ rd m (i : Int) = (j : Int) := by
    intro j hj
    obtain ⟨i, hi, e⟩ := List.mem_iff_getElem.1 (match_allM hp j hj)
    exact ⟨i, hi, by rw [rd_nat m i hi]; exact e⟩
  have hw : ∀ j, j < m.length → ∃ i, i < m.length ∧ rd m (i : Int) = (j : Int) ∧ rd (swapTo m m.length) (j : Int) = (i : Int) := by
    intro j hj
    obtain ⟨i, hi, e⟩ := hidx j hj
    exact ⟨i, hi, e, by rw [← e]; exact hat i hi⟩
  have hp2 : isMatchP (swapTo m m.length) (m.length : Int) := by
    refine ⟨by rw [hl], swapTo_mem m m.length (Nat.le_refl _), ?_⟩
    refine List.pairwise_iff_getElem.2 fun a b ha0 hb0 hab he => ?_
    have hb : b < m.length := by omega
    obtain ⟨i, hi, e1, e2⟩ := hw a (by omega)
    obtain ⟨j, hj, e3, e4⟩ := hw b hb
    have x1 : rd (swapTo m m.length) (a : Int) = rd (swapTo m m.length) (b : Int) := by
      rw [rd_nat _ a ha0, rd_nat _ b hb0, he]
    rw [e2, e4] at x1
    obtain rfl : i = j := by omega
    omega
  refine ⟨hp2, ?_⟩
  have hat2 := swapTo_at (swapTo m m.length) (by rw [hl]; exact hp2) m.length (by rw [hl]; exact Nat.le_refl _)
  apply List.ext_getElem (by rw [swapTo_length, hl])
  intro i h1 h2
  obtain ⟨q, hq1, hq2⟩ : ∃ q : Nat, q < m.length ∧ rd m (i : Int) = (q : Int) := by
    have := hp.2.1 _ (List.getElem_mem h2)
    exact ⟨(m[i]).toNat, by omega, by rw [rd_nat m i h2]; omega⟩
  have e5 := hat2 q hq1
  have e6 : rd (swapTo m m.length) (q : Int) = (i : Int) := by rw [← hq2]; exact hat i h2
  rw [e6] at e5
  rw [← rd_nat _ i h1, e5, ← hq2, rd_nat m i h2]
/-- A pair that blocks: both like each other better. -/
def Blk (a b : List (List Int)) (m s : List Int) (i j : Nat) : Prop := pos (rowOf a i) (j : Int) < pos (rowOf a i) (rd m (i : Int)) ∧ pos (rowOf b j) (i : Int) < pos (rowOf b j) (rd s (j : Int))
theorem blocking_tells (a b : List (List Int)) (m : List Int) (n : Nat) (hn : n ≤ 7) (hal : a.length = n) (hbl : b.length = n) (hml : m.length = n) (ha : ∀ x ∈ a, isMatchP x (n : Int)) (hb : ∀ x ∈ b, isMatchP x (n : Int)) (hm : isMatchP m (n : Int)) : ∃ g : List (List Int), (∃ K, ∀ k, K ≤ k → spec_maBlocking.f k a b m = some g) ∧ (g.length = 0 ↔ ∀ i j, i < n → j < n → ¬ Blk a b m (swapTo m m.length) i j) := by
  obtain ⟨⟨KS, hS⟩, _⟩ := swap_ev m (by omega) (by rw [hml]; exact hm)
  have hsl := swapTo_length m m.length
  have hsm := swapTo_mem m m.length (Nat.le_refl _)
  generalize swapTo m m.length = s at *
  have key : ∀ d i, i + d = n → ∀ out : List (List Int), out.length ≤ 7 * i → ∃ g : List (List Int), (∃ K, ∀ k, K ≤ k → spec_maBlocking.l0 k a b m s out (a.length : Int) (i : Int) = some g) ∧ (g.length = 0 ↔ out.length = 0 ∧ ∀ i' j', i ≤ i' → i' < n → j' < n → ¬ Blk a b m s i' j') := by
    intro d
    induction d with
    | zero =>
      intro i hi out ho
      refine ⟨out, ev_suc 0 fun k _ => ?_, ⟨fun h => ⟨h, fun i' j' h1 h2 _ => by omega⟩, fun h => h.1⟩⟩
      simp only [spec_maBlocking.l0]; rw [if_neg (by omega)]
    | succ d ih =>
      intro i hi out ho
      have hia : i < a.length := by omega
      have him : i < m.length := by omega
      have hai := ha _ (List.getElem_mem hia)
      have hmi := hm.2.1 _ (List.getElem_mem him)
      have inner : ∀ e j, j + e = n → ∀ out : List (List Int), out.length ≤ 7 * i + j → ∃ g : List (List Int), (∃ K, ∀ k, K ≤ k → spec_maBlocking.l1 k a b m s out (i : Int) (a.length : Int) (i : Int) (b.length : Int) (j : Int) = some g) ∧ (g.length = 0 ↔ out.length = 0 ∧ (∀ j', j ≤ j' → j' < n → ¬ Blk a b m s i j') ∧ ∀ i' j', i + 1 ≤ i' → i' < n → j' < n → ¬ Blk a b m s i' j') := by
        intro e
        induction e with
        | zero =>
          intro j hj out ho
          obtain ⟨g, ⟨K1, h1⟩, h2⟩ := ih (i + 1) (by omega) out (by omega)
          refine ⟨g, ev_suc K1 fun k hk => ?_, ?_⟩
          · simp only [spec_maBlocking.l1]
            rw [if_neg (by omega), w64s (by omega)]
            exact h1 k hk
          · rw [h2]
            exact ⟨fun h => ⟨h.1, fun j' _ _ => by omega, h.2⟩, fun h => ⟨h.1, h.2.2⟩⟩
        | succ e ihe =>
          intro j hj out ho
          have hjb : j < b.length := by omega
          have hjs : j < s.length := by omega
          have hbj := hb _ (List.getElem_mem hjb)
          have hsj := hsm _ (List.getElem_mem hjs)
          obtain ⟨A1, e1⟩ := (rank_pos a[i] (by have := hai.1; omega) (j : Int) (match_all hai _ (by omega) (by omega))).1
          obtain ⟨A2, e2⟩ := (rank_pos a[i] (by have := hai.1; omega) m[i] (match_all hai _ hmi.1 hmi.2)).1
          obtain ⟨A3, e3⟩ := (rank_pos b[j] (by have := hbj.1; omega) (i : Int) (match_all hbj _ (by omega) (by omega))).1
          obtain ⟨A4, e4⟩ := (rank_pos b[j] (by have := hbj.1; omega) s[j] (match_all hbj _ (by omega) (by omega))).1
          have hB : Blk a b m s i j ↔ pos a[i] (j : Int) < pos a[i] m[i] ∧ pos b[j] (i : Int) < pos b[j] s[j] := by
            unfold Blk rowOf
            rw [rdLL_nat a i hia, rdLL_nat b j hjb, rd_nat m i him, rd_nat s j hjs]
          have step : ¬ Blk a b m s i j → ((out.length = 0 ∧ (∀ j', j + 1 ≤ j' → j' < n → ¬ Blk a b m s i j') ∧ ∀ i' j', i + 1 ≤ i' → i' < n → j' < n → ¬ Blk a b m s i' j') ↔ (out.length = 0 ∧ (∀ j', j ≤ j' → j' < n → ¬ Blk a b m s i j') ∧ ∀ i' j', i + 1 ≤ i' → i' < n → j' < n → ¬ Blk a b m s i' j')) := fun hnb => ⟨fun h => ⟨h.1, fun j' x1 x2 => by
            by_cases q : j' = j
            · rw [q]; exact hnb
            · exact h.2.1 j' (by omega) x2, h.2.2⟩, fun h => ⟨h.1, fun j' x1 x2 => h.2.1 j' (by omega) x2, h.2.2⟩⟩
          by_cases c1 : pos a[i] (j : Int) < pos a[i] m[i]
          · by_cases c2 : pos b[j] (i : Int) < pos b[j] s[j]
            · obtain ⟨g, ⟨K1, h1⟩, h2⟩ := ihe (j + 1) (by omega) (out ++ [[(i : Int), (j : Int)]]) (by rw [List.length_append, List.length_singleton]; omega)
              refine ⟨g, ev_suc (K1 + A1 + A2 + A3 + A4) fun k hk => ?_, ?_⟩
              · simp only [spec_maBlocking.l1]
                rw [if_pos (by omega), if_pos (by omega), if_pos (by omega), rdLL_nat a i hia, e1 k (by omega)]
                simp only [Option.bind_some]
                rw [if_pos (by omega), rd_nat m i him, e2 k (by omega)]
                simp only [Option.bind_some]
                rw [if_pos (by omega), if_pos (by omega), if_pos (by omega), rdLL_nat b j hjb, e3 k (by omega)]
                simp only [Option.bind_some]
                rw [if_pos (by omega), rd_nat s j hjs, e4 k (by omega)]
                simp only [Option.bind_some]
                rw [if_pos (by omega), if_pos (by omega), w64s (by omega)]
                exact h1 k (by omega)
              · rw [h2]
                constructor
                · intro h; have := h.1; simp at this
                · intro h; exact absurd (hB.2 ⟨c1, c2⟩) (h.2.1 j (Nat.le_refl _) (by omega))
            · obtain ⟨g, ⟨K1, h1⟩, h2⟩ := ihe (j + 1) (by omega) out (by omega)
              refine ⟨g, ev_suc (K1 + A1 + A2 + A3 + A4) fun k hk => ?_, h2.trans (step fun h => c2 (hB.1 h).2)⟩
              simp only [spec_maBlocking.l1]
              rw [if_pos (by omega), if_pos (by omega), if_pos (by omega), rdLL_nat a i hia, e1 k (by omega)]
              simp only [Option.bind_some]
              rw [if_pos (by omega), rd_nat m i him, e2 k (by omega)]
              simp only [Option.bind_some]
              rw [if_pos (by omega), if_pos (by omega), if_pos (by omega), rdLL_nat b j hjb, e3 k (by omega)]
              simp only [Option.bind_some]
              rw [if_pos (by omega), rd_nat s j hjs, e4 k (by omega)]
              simp only [Option.bind_some]
              rw [if_neg (by omega), w64s (by omega)]
              exact h1 k (by omega)
          · obtain ⟨g, ⟨K1, h1⟩, h2⟩ := ihe (j + 1) (by omega) out (by omega)
            refine ⟨g, ev_suc (K1 + A1 + A2) fun k hk => ?_, h2.trans (step fun h => c1 (hB.1 h).1)⟩
            simp only [spec_maBlocking.l1]
            rw [if_pos (by omega), if_pos (by omega), if_pos (by omega), rdLL_nat a i hia, e1 k (by omega)]
            simp only [Option.bind_some]
            rw [if_pos (by omega), rd_nat m i him, e2 k (by omega)]
            simp only [Option.bind_some]
            rw [if_neg (by omega), w64s (by omega)]
            exact h1 k (by omega)
      obtain ⟨g, ⟨K1, h1⟩, h2⟩ := inner n 0 (by omega) out (by omega)
      refine ⟨g, ev_suc K1 fun k hk => ?_, h2.trans ⟨fun h => ⟨h.1, fun i' j' x1 x2 x3 => ?_⟩, fun h => ⟨h.1, fun j' _ x => h.2 i j' (Nat.le_refl _) (by omega) x, fun i' j' x1 x2 x3 => h.2 i' j' (by omega) x2 x3⟩⟩⟩
      · simp only [spec_maBlocking.l0]
        rw [if_pos (by omega)]
        exact h1 k hk
      · by_cases q : i' = i
        · rw [q]; exact h.2.1 j' (by omega) x3
        · exact h.2.2 i' j' (by omega) x2 x3
  obtain ⟨g, ⟨K1, h1⟩, h2⟩ := key n 0 (by omega) [] (by simp)
  refine ⟨g, ⟨KS + K1, fun k hk => ?_⟩, h2.trans ⟨fun h i j x1 x2 => h.2 i j (by omega) x1 x2, fun h => ⟨rfl, fun i j _ x1 x2 => h i j x1 x2⟩⟩⟩
  unfold spec_maBlocking.f
  rw [hS k (by omega)]
  exact h1 k (by omega)
theorem noBlock_iff {a b : List (List Int)} {m : List Int} {n : Nat} (hn : n ≤ 7) (hal : a.length = n) (hbl : b.length = n) (hml : m.length = n) (ha : ∀ x ∈ a, isMatchP x (n : Int)) (hb : ∀ x ∈ b, isMatchP x (n : Int)) (hm : isMatchP m (n : Int)) : NoBlock a b m ↔ ∀ i j, i < n → j < n → ¬ Blk a b m (swapTo m m.length) i j := by
  obtain ⟨g, ⟨K, h⟩, e⟩ := blocking_tells a b m n hn hal hbl hml ha hb hm
  rw [← e]
  constructor
  · intro ⟨g2, ⟨K2, h2⟩, e2⟩
    have := Option.some.inj ((h (K + K2) (by omega)).symm.trans (h2 (K + K2) (by omega)))
    rw [this]; exact e2
  · intro h2; exact ⟨g, ⟨K, h⟩, h2⟩
theorem noBlock_swap {a b : List (List Int)} {m : List Int} {n : Nat} (hn : n ≤ 7) (hal : a.length = n) (hbl : b.length = n) (hml : m.length = n) (ha : ∀ x ∈ a, isMatchP x (n : Int)) (hb : ∀ x ∈ b, isMatchP x (n : Int)) (hm : isMatchP m (n : Int)) (h : NoBlock a b m) : NoBlock b a (swapTo m m.length) := by
  subst hml
  obtain ⟨w1, w2⟩ := swap_back m hm
  have hl := swapTo_length m m.length
  have h2 := (noBlock_iff hn hal hbl rfl ha hb hm).1 h
  refine (noBlock_iff hn hbl hal hl hb ha w1).2 fun i j hi hj hB => ?_
  rw [hl, w2] at hB
  exact h2 j i hj hi ⟨hB.2, hB.1⟩
theorem swap_idx {m : List Int} (hp : isMatchP m (m.length : Int)) : ∀ j, j < m.length → ∃ i, i < m.length ∧ rd m (i : Int) = (j : Int) ∧ rd (swapTo m m.length) (j : Int) = (i : Int) := by
  have hat := swapTo_at m hp m.length (Nat.le_refl _)
  intro j hj
  obtain ⟨i, hi, e⟩ := List.mem_iff_getElem.1 (match_allM hp j hj)
  have e2 : rd m (i : Int) = (j : Int) := by rw [rd_nat m i hi]; exact e
  exact ⟨i, hi, e2, by rw [← e2]; exact hat i hi⟩
theorem match_at {m : List Int} {n : Nat} (hml : m.length = n) (hm : isMatchP m (n : Int)) (i : Nat) (hi : i < n) : 0 ≤ rd m (i : Int) ∧ rd m (i : Int) < (n : Int) ∧ rd m (i : Int) = ((rd m (i : Int)).toNat : Int) ∧ (rd m (i : Int)).toNat < n := by
  rw [rd_nat m i (by omega)]
  have := hm.2.1 _ (List.getElem_mem (show i < m.length by omega))
  omega
theorem match_inj {m : List Int} {n : Nat} (hml : m.length = n) (hm : isMatchP m (n : Int)) (i j : Nat) (hi : i < n) (hj : j < n) (h : rd m (i : Int) = rd m (j : Int)) : i = j := by
  rw [rd_nat m i (by omega), rd_nat m j (by omega)] at h
  have hp := List.pairwise_iff_getElem.1 hm.2.2
  rcases Nat.lt_trichotomy i j with q | q | q
  · exact absurd h (hp i j (by omega) (by omega) q)
  · exact q
  · exact absurd h.symm (hp j i (by omega) (by omega) q)
theorem stab_of {a b : List (List Int)} {m : List Int} {n : Nat} (hn : n ≤ 7) (hal : a.length = n) (hbl : b.length = n) (hml : m.length = n) (ha : ∀ x ∈ a, isMatchP x (n : Int)) (hb : ∀ x ∈ b, isMatchP x (n : Int)) (hm : isMatchP m (n : Int)) (h : NoBlock a b m) : Stab (sidesOf a b n hal hbl ha hb) (fun i => (rd m (i : Int)).toNat) := by
  subst hml
  have h2 := (noBlock_iff hn hal hbl rfl ha hb hm).1 h
  have hat := swapTo_at m hm m.length (Nat.le_refl _)
  refine ⟨fun i hi => (match_at rfl hm i hi).2.2.2, fun i j hi hj e => match_inj rfl hm i j hi hj ?_, fun i j hi hj x1 x2 => ?_⟩
  · have q1 := match_at rfl hm i hi
    have q2 := match_at rfl hm j hj
    have e' : (rd m (i : Int)).toNat = (rd m (j : Int)).toNat := e
    omega
  · have q1 := match_at rfl hm i hi
    have q2 := match_at rfl hm j hj
    refine h2 i (rd m (j : Int)).toNat hi q2.2.2.2 ⟨?_, ?_⟩
    · have x1' : pos (rowOf a i) ((rd m (j : Int)).toNat : Int) < pos (rowOf a i) ((rd m (i : Int)).toNat : Int) := x1
      rw [← q1.2.2.1] at x1'
      exact x1'
    · rw [← q2.2.2.1, hat j hj]
      exact x2
theorem noBlock_of {a b : List (List Int)} {m : List Int} {n : Nat} (hn : n ≤ 7) (hal : a.length = n) (hbl : b.length = n) (hml : m.length = n) (ha : ∀ x ∈ a, isMatchP x (n : Int)) (hb : ∀ x ∈ b, isMatchP x (n : Int)) {mu : Nat → Nat} (hS : Stab (sidesOf a b n hal hbl ha hb) mu) (he : ∀ i, i < n → rd m (i : Int) = (mu i : Int)) : isMatchP m (n : Int) ∧ NoBlock a b m := by
  subst hml
  have hm : isMatchP m (m.length : Int) := by
    refine ⟨rfl, fun x hx => ?_, List.pairwise_iff_getElem.2 fun i j hi hj hij e => ?_⟩
    · obtain ⟨i, hi, rfl⟩ := List.mem_iff_getElem.1 hx
      have h1 := he i hi
      have h2 : mu i < m.length := hS.lt i hi
      rw [rd_nat m i hi] at h1
      omega
    · have h1 := he i hi
      have h2 := he j hj
      rw [rd_nat m i hi] at h1
      rw [rd_nat m j hj] at h2
      have := hS.inj i j hi hj (by omega)
      omega
  refine ⟨hm, (noBlock_iff hn hal hbl rfl ha hb hm).2 fun i k hi hk hB => ?_⟩
  obtain ⟨j, hj, e1, e2⟩ := swap_idx hm k hk
  have hk2 : mu j = k := by have := he j hj; omega
  obtain ⟨y1, y2⟩ := hB
  rw [he i hi] at y1
  rw [e2] at y2
  rw [← hk2] at y1 y2
  exact hS.none i j hi hj y1 y2
/-- A stable match in which every truck does best. -/
def Best (a b : List (List Int)) (n : Nat) (m : List Int) : Prop := m.length = n ∧ isMatchP m (n : Int) ∧ NoBlock a b m ∧ ∀ u : List Int, u.length = n → isMatchP u (n : Int) → NoBlock a b u → ∀ i, i < n → pos (rowOf a i) (rd m (i : Int)) ≤ pos (rowOf a i) (rd u (i : Int))
theorem ends_tell {a b : List (List Int)} {m : List Int} {n : Nat} (hn : n ≤ 7) {hal : a.length = n} {hbl : b.length = n} {ha : ∀ x ∈ a, isMatchP x (n : Int)} {hb : ∀ x ∈ b, isMatchP x (n : Int)} (E : Ends (sidesOf a b n hal hbl ha hb) m) : Best a b n m := by
  have hml : m.length = n := E.len
  obtain ⟨p, h, D, he⟩ := E.ends
  obtain ⟨h1, h2⟩ := noBlock_of hn hal hbl hml ha hb (asked_stab D.H D.all) he
  refine ⟨hml, h1, h2, fun u hu hum hub i hi => ?_⟩
  have h3 := D.H.best _ (stab_of hn hal hbl hu ha hb hum hub) i hi
  have h4 := (sidesOf a b n hal hbl ha hb).ra_pa i (p i) hi (D.all i hi).1
  have h5 : pos (rowOf a i) (((sidesOf a b n hal hbl ha hb).pa i (p i) : Nat) : Int) = p i := h4
  have h6 : p i ≤ pos (rowOf a i) ((rd u (i : Int)).toNat : Int) := h3
  rw [he i hi, h5]
  rw [← (match_at hu hum i hi).2.2.1] at h6
  exact h6
theorem pos_inj {l : List Int} {n : Nat} (h : isMatchP l (n : Int)) {x y : Int} (hx : x ∈ l) (hy : y ∈ l) (e : pos l x = pos l y) : x = y := by
  obtain ⟨h1, e1⟩ := pos_get l x hx
  obtain ⟨h2, e2⟩ := pos_get l y hy
  have e3 : l[pos l x]'h1 = l[pos l y]'h2 := by congr 1
  rw [← e1, ← e2, e3]
/-- If the best match of the one side is the best of the other, no other is stable. -/
theorem one_best {a b : List (List Int)} {m : List Int} {n : Nat} (hn : n ≤ 7) (hal : a.length = n) (hbl : b.length = n) (ha : ∀ x ∈ a, isMatchP x (n : Int)) (hb : ∀ x ∈ b, isMatchP x (n : Int)) (hml : m.length = n) (hm : isMatchP m (n : Int)) (H1 : ∀ u : List Int, u.length = n → isMatchP u (n : Int) → NoBlock a b u → ∀ i, i < n → pos (rowOf a i) (rd m (i : Int)) ≤ pos (rowOf a i) (rd u (i : Int))) (H2 : ∀ u : List Int, u.length = n → isMatchP u (n : Int) → NoBlock b a u → ∀ i, i < n → pos (rowOf b i) (rd (swapTo m m.length) (i : Int)) ≤ pos (rowOf b i) (rd u (i : Int))) (u : List Int) (hu : u.length = n) (hum : isMatchP u (n : Int)) (hub : NoBlock a b u) : u = m := by
  subst hml
  apply List.ext_getElem hu
  intro i hi1 hi
  rw [← rd_nat u i hi1, ← rd_nat m i hi]
  apply Classical.byContradiction
  intro hne
  have hB := (noBlock_iff hn hal hbl hu ha hb hum).1 hub
  have q1 := match_at rfl hm i hi
  have q2 := match_at hu hum i hi
  have hat := swapTo_at m hm m.length (Nat.le_refl _) i hi
  have hus : isMatchP (swapTo u u.length) (m.length : Int) := by
    have := (swap_back u (by rw [hu]; exact hum)).1
    rw [hu] at this ⊢; exact this
  have husl : (swapTo u u.length).length = m.length := by rw [swapTo_length]; exact hu
  have h2 := H2 _ husl hus (noBlock_swap hn hal hbl hu ha hb hum hub) (rd m (i : Int)).toNat q1.2.2.2
  have h1 := H1 u hu hum hub i hi
  rw [← q1.2.2.1, hat] at h2
  have ri := row_match hal ha i hi
  have rk := row_match hbl hb (rd m (i : Int)).toNat q1.2.2.2
  have n1 : pos (rowOf a i) (rd m (i : Int)) ≠ pos (rowOf a i) (rd u (i : Int)) := fun e => hne (pos_inj ri (match_all ri _ q1.1 q1.2.1) (match_all ri _ q2.1 q2.2.1) e).symm
  have q3 := match_at husl hus (rd m (i : Int)).toNat q1.2.2.2
  have n2 : pos (rowOf b (rd m (i : Int)).toNat) (i : Int) ≠ pos (rowOf b (rd m (i : Int)).toNat) (rd (swapTo u u.length) (rd m (i : Int))) := fun e => by
    rw [← q1.2.2.1] at q3
    have e2 := pos_inj rk (match_all rk _ (by omega) (by omega)) (match_all rk _ q3.1 q3.2.1) e
    obtain ⟨j, hj, f1, f2⟩ := swap_idx (m := u) (by rw [hu]; exact hum) (rd m (i : Int)).toNat (by rw [hu]; exact q1.2.2.2)
    rw [← q1.2.2.1] at f1 f2
    rw [f2] at e2
    have : i = j := by omega
    subst this
    exact hne f1
  refine hB i (rd m (i : Int)).toNat hi q1.2.2.2 ⟨?_, ?_⟩
  · rw [← q1.2.2.1]; omega
  · rw [← q1.2.2.1]; omega
theorem allFrom_take (n : Nat) : ∀ d p, ∀ m ∈ allFrom n d p, m.take p.length = p := by
  intro d
  induction d with
  | zero =>
    intro p m hm
    simp only [allFrom, List.mem_singleton] at hm
    subst hm
    simp
  | succ d ih =>
    intro p m hm
    simp only [allFrom] at hm
    obtain ⟨j, hj, hm⟩ := List.mem_flatMap.1 hm
    by_cases g : (j : Int) ∈ p
    · rw [if_pos g] at hm; cases hm
    · rw [if_neg g] at hm
      have h := ih _ m hm
      rw [List.length_append, List.length_singleton] at h
      have h2 : (m.take (p.length + 1)).take p.length = (p ++ [(j : Int)]).take p.length := by rw [h]
      rw [List.take_take, List.take_left', Nat.min_eq_left (by omega)] at h2
      · exact h2
      · rfl
theorem allFrom_nodup (n : Nat) : ∀ d p, (allFrom n d p).Nodup := by
  intro d
  induction d with
  | zero => intro p; simp [allFrom]
  | succ d ih =>
    intro p
    simp only [allFrom]
    rw [List.nodup_iff_pairwise_ne, List.pairwise_flatMap]
    refine ⟨fun j _ => ?_, ?_⟩
    · by_cases g : (j : Int) ∈ p
      · rw [if_pos g]; exact List.Pairwise.nil
      · rw [if_neg g]; exact List.nodup_iff_pairwise_ne.1 (ih _)
    · refine List.Pairwise.imp ?_ (List.nodup_iff_pairwise_ne.1 List.nodup_range)
      intro i j hij x hx y hy e
      subst e
      by_cases g : (i : Int) ∈ p
      · rw [if_pos g] at hx; cases hx
      · rw [if_neg g] at hx
        by_cases g2 : (j : Int) ∈ p
        · rw [if_pos g2] at hy; cases hy
        · rw [if_neg g2] at hy
          have h1 := allFrom_take n d _ x hx
          have h2 := allFrom_take n d _ x hy
          rw [List.length_append, List.length_singleton] at h1 h2
          rw [h1] at h2
          have := List.append_cancel_left h2
          simp at this
          exact hij (by omega)
theorem cnt_facts (a b : List (List Int)) : ∀ (l : List (List Int)) (s : Int), s ≤ l.foldl (cntOne a b) s ∧ ((∀ m ∈ l, ¬ NoBlock a b m) → l.foldl (cntOne a b) s = s) ∧ (∀ m ∈ l, NoBlock a b m → s + 1 ≤ l.foldl (cntOne a b) s) ∧ (∀ m ∈ l, ∀ u ∈ l, m ≠ u → NoBlock a b m → NoBlock a b u → s + 2 ≤ l.foldl (cntOne a b) s) ∧ ∀ m0, l.Nodup → (∀ m ∈ l, NoBlock a b m → m = m0) → l.foldl (cntOne a b) s ≤ s + 1 := by
  intro l
  induction l with
  | nil => intro s; exact ⟨by simp, fun _ => rfl, fun m h => (by cases h), fun m h => (by cases h), fun _ _ _ => by simp; omega⟩
  | cons x l ih =>
    intro s
    obtain ⟨i1, i2, i3, i4, i5⟩ := ih (cntOne a b s x)
    have h8 : s ≤ cntOne a b s x ∧ (¬ NoBlock a b x → cntOne a b s x = s) ∧ (NoBlock a b x → cntOne a b s x = s + 1) := by
      unfold cntOne
      by_cases g : NoBlock a b x
      · rw [if_pos g]; exact ⟨by omega, fun h => absurd g h, fun _ => rfl⟩
      · rw [if_neg g]; exact ⟨by omega, fun _ => rfl, fun h => absurd h g⟩
    obtain ⟨g1, g2, g3⟩ := h8
    rw [List.foldl_cons]
    refine ⟨by omega, fun h => ?_, fun m hm hb => ?_, fun m hm u hu hne h1 h2 => ?_, fun m0 hd hall => ?_⟩
    · rw [i2 fun m hm => h m (List.mem_cons_of_mem _ hm), g2 (h x (List.mem_cons_self))]
    · rcases List.mem_cons.1 hm with rfl | hm
      · have := g3 hb; omega
      · have := i3 m hm hb; omega
    · rcases List.mem_cons.1 hm with q | hm'
      · rcases List.mem_cons.1 hu with q' | hu'
        · exact absurd (q.trans q'.symm) hne
        · have := g3 (q ▸ h1); have := i3 u hu' h2; omega
      · rcases List.mem_cons.1 hu with q' | hu'
        · have := g3 (q' ▸ h2); have := i3 m hm' h1; omega
        · have := i4 m hm' u hu' hne h1 h2; omega
    · rw [List.nodup_cons] at hd
      by_cases g : NoBlock a b x
      · have e := hall x (List.mem_cons_self) g
        rw [i2 fun m hm hb => hd.1 (by
          have := hall m (List.mem_cons_of_mem _ hm) hb
          rw [e, ← this]; exact hm), g3 g]
        omega
      · have := i5 m0 hd.2 (fun m hm => hall m (List.mem_cons_of_mem _ hm))
        rw [g2 g] at this ⊢
        exact this
/-- How many are stable, and whether both sides' best ones are one. -/
theorem count_tells {a b : List (List Int)} {m t : List Int} {n : Nat} (hn : n ≤ 7) (hal : a.length = n) (hbl : b.length = n) (ha : ∀ x ∈ a, isMatchP x (n : Int)) (hb : ∀ x ∈ b, isMatchP x (n : Int)) (E : Best a b n m) (E' : Best b a n t) : 1 ≤ (allFrom n n []).foldl (cntOne a b) 0 ∧ (swapTo m m.length = t ↔ (allFrom n n []).foldl (cntOne a b) 0 = 1) := by
  obtain ⟨l1, m1, s1, H1⟩ := E
  obtain ⟨l2, m2, s2, H2⟩ := E'
  have hin : ∀ u : List Int, u.length = n → isMatchP u (n : Int) → u ∈ allFrom n n [] := fun u hu hum => allFrom_all n n [] u (by simp) hu ⟨hum.2.2, hum.2.1⟩ (by simp)
  have hP0 : Part n [] := ⟨by simp, fun x hx => by cases hx⟩
  have hof := allFrom_mem n n [] (by simp) hP0
  obtain ⟨c1, _, c3, c4, c5⟩ := cnt_facts a b (allFrom n n []) 0
  have hge := c3 m (hin m l1 m1) s1
  have w := swap_back m (by rw [l1]; exact m1)
  have w' := swap_back t (by rw [l2]; exact m2)
  have hlt := swapTo_length t t.length
  refine ⟨by omega, fun e => ?_, fun e => ?_⟩
  · have := c5 m (allFrom_nodup n n []) (fun u hu hub => one_best hn hal hbl ha hb l1 m1 H1 (by rw [e]; exact H2) u (hof u hu).1 (matchP_of (hof u hu).1 (hof u hu).2) hub)
    omega
  · have st := noBlock_swap hn hbl hal l2 hb ha m2 s2
    have hst : isMatchP (swapTo t t.length) (n : Int) := by have := w'.1; rw [l2] at this ⊢; exact this
    apply Classical.byContradiction
    intro hne
    have := c4 m (hin m l1 m1) (swapTo t t.length) (hin _ (by omega) hst) (fun e2 => hne (by
      have e3 := w'.2
      rw [← e2] at e3
      rw [l1, ← l2]; exact e3)) s1 st
    omega
def Rows9 (x : List (List Int)) : Prop := x.length ≤ 9 ∧ ∀ r ∈ x, r.length ≤ 100
theorem prefs_l0 {l : List Int} (hl : bytes l) (hn : l.length ≤ maxLen) {n : Nat} (h1n : 1 ≤ n) (hnn : n ≤ 9) (P0 : Int) (hP0 : 0 ≤ P0) (hP1 : P0 ≤ 1000000000) : ∀ (d i : Nat) (x : List (List Int)) (p s : Int), i + d = n → x.length = i → (∀ r ∈ x, r.length = n) → 0 ≤ p → p ≤ P0 + 300 * (i : Int) → ∃ r : List (List Int) × Int × Int, (Rows9 r.1 ∧ 0 ≤ r.2.1 ∧ r.2.1 ≤ P0 + 10000) ∧ ∃ K, ∀ k, K ≤ k → spec_l1Cur_preferences.l0 k (n : Int) x l p s = some r := by
  intro d
  induction d with
  | zero =>
    intro i x p s hi hx hr h0 h1
    obtain ⟨b, p1, s1, e1, a1, b1, _, q1, r1⟩ := pick_ok hl hn s (x.length : Int) h0 (by omega)
    obtain ⟨c, p2, s2, e2, a2, b2, _, q2, r2⟩ := pick_ok hl hn s1 30 (p := p1) (by omega) (by omega)
    obtain ⟨q, rfl⟩ : ∃ q : Nat, b = (q : Int) := ⟨b.toNat, by omega⟩
    have hq : q < x.length := by omega
    have hrow : (rd_L2 x (q : Int)).length = n := by
      rw [rdLL_nat x q hq]
      exact hr _ (List.getElem_mem hq)
    obtain ⟨v, p3, s3, e3, _, q3, r3⟩ := among_ok hl hn s2 [(-1), (n : Int), rd (rd_L2 x (q : Int)) (wrap64 ((n : Int) - 1))] (by simp) (p := p2) (by omega) (by omega)
    have hset : ∀ z : List Int, z.length ≤ 100 → Rows9 (x.set q z) := fun z hz => ⟨by simp; omega, fun r hm => by
      rcases List.mem_or_eq_of_mem_set hm with h | h
      · have := hr r h; omega
      · rw [h]; exact hz⟩
    have hxs : Rows9 x := ⟨by omega, fun r h => by have := hr r h; omega⟩
    have hw : wrap64 ((n : Int) - 1) = (n : Int) - 1 := w64 (by omega) (by omega)
    have hun : ∀ k, spec_l1Cur_preferences.l0 (k + 1) (n : Int) x l p s = some (if c = 0 then (x.set q ((rd_L2 x (q : Int)).set 0 v), p3, s3) else if c = 1 then (x.set q (rd_L2 x (q : Int) ++ [0]), p2, s2) else (x, p2, s2)) := by
      intro k
      simp only [spec_l1Cur_preferences.l0]
      rw [if_neg (by omega), if_pos (by omega), e1]
      simp only [Option.bind_some]
      rw [e2]
      simp only [Option.bind_some]
      by_cases c0 : c = 0
      · rw [if_pos c0, if_pos c0, if_pos (by omega), if_pos (by omega), if_pos (by omega), if_pos (by omega), e3]
        simp only [Option.bind_some]
        rw [if_pos (by omega)]
        simp
      · rw [if_neg c0, if_neg c0]
        by_cases c1 : c = 1
        · rw [if_pos c1, if_pos c1, if_pos (by omega), if_pos (by omega), if_pos (by omega)]
          simp
        · rw [if_neg c1, if_neg c1]
    refine ⟨_, ?_, ev_suc 0 fun k _ => hun k⟩
    by_cases c0 : c = 0
    · rw [if_pos c0]; exact ⟨hset _ (by simp; omega), by simp only; omega, by simp only; omega⟩
    · rw [if_neg c0]
      by_cases c1 : c = 1
      · rw [if_pos c1]; exact ⟨hset _ (by simp; omega), by simp only; omega, by simp only; omega⟩
      · rw [if_neg c1]; exact ⟨hxs, by simp only; omega, by simp only; omega⟩
  | succ d ih =>
    intro i x p s hi hx hr h0 h1
    obtain ⟨y, p1, s1, e1, a1, q1, r1⟩ := permuted_ok hl hn s (n := (n : Int)) h0 (by omega) (by omega)
    obtain ⟨r, hR, K, h⟩ := ih (i + 1) (x ++ [y]) p1 s1 (by omega) (by simp; omega) (fun z hz => by
      rcases List.mem_append.1 hz with h | h
      · exact hr z h
      · rw [List.mem_singleton.1 h]; omega) (by omega) (by omega)
    refine ⟨r, hR, ev_suc K fun k hk => ?_⟩
    simp only [spec_l1Cur_preferences.l0]
    rw [if_pos (by omega), e1]
    simp only [Option.bind_some]
    rw [if_pos (by omega)]
    exact h k hk
theorem prefs_ok {l : List Int} (hl : bytes l) (hn : l.length ≤ maxLen) {n : Nat} (h1n : 1 ≤ n) (hnn : n ≤ 9) {p : Int} (s : Int) (h0 : 0 ≤ p) (h1 : p ≤ 1000000000) : ∃ x p' s', (∃ K, ∀ k, K ≤ k → spec_l1Cur_preferences.f k l p s (n : Int) = some (x, p', s')) ∧ Rows9 x ∧ 0 ≤ p' ∧ p' ≤ p + 10000 := by
  obtain ⟨r, ⟨hR, h2, h3⟩, K, h⟩ := prefs_l0 hl hn h1n hnn p h0 h1 n 0 [] p s (by omega) rfl (by simp) h0 (by omega)
  refine ⟨r.1, r.2.1, r.2.2, ⟨K, fun k hk => ?_⟩, hR, h2, h3⟩
  unfold spec_l1Cur_preferences.f
  exact h k hk
theorem drawStable_ok {l : List Int} (hl : bytes l) (hn : l.length ≤ maxLen) : ∃ x y, Rows9 x ∧ Rows9 y ∧ ∃ K, ∀ k, K ≤ k → spec_DrawStableMatch.f k l = some (x, y) := by
  obtain ⟨n, p1, s1, e1, a1, b1, q1, r1⟩ := side_ok hl hn 0 (p := 0) (by omega) (by omega)
  obtain ⟨m, rfl⟩ : ∃ m : Nat, n = (m : Int) := ⟨n.toNat, by omega⟩
  obtain ⟨x, p2, s2, ⟨K1, h1⟩, hx, q2, r2⟩ := prefs_ok hl hn (n := m) (by omega) (by omega) (p := p1) s1 (by omega) (by omega)
  obtain ⟨b, p3, s3, e3, a3, b3, _, q3, r3⟩ := pick_ok hl hn s2 24 (p := p2) (by omega) (by omega)
  have ht : Int.tdiv b 23 = b / 23 := Int.tdiv_eq_ediv_of_nonneg a3
  have hw : wrap64 ((m : Int) + wrap64 (Int.tdiv b 23)) = ((m + (b / 23).toNat : Nat) : Int) := by
    rw [ht, w64 (x := b / 23) (by omega) (by omega), w64 (by omega) (by omega)]
    omega
  obtain ⟨y, p4, s4, ⟨K2, h2⟩, hy, q4, r4⟩ := prefs_ok hl hn (n := m + (b / 23).toNat) (by omega) (by omega) (p := p3) s3 (by omega) (by omega)
  refine ⟨x, y, hx, hy, K1 + K2, fun k hk => ?_⟩
  unfold spec_DrawStableMatch.f spec_DrawStableMatch.q
  rw [e1]
  simp only [Option.bind_some]
  rw [h1 k (by omega)]
  simp only [Option.bind_some]
  rw [e3]
  simp only [Option.bind_some]
  rw [hw, h2 k (by omega)]
  rfl
theorem drawBlocking_ok {l : List Int} (hl : bytes l) (hn : l.length ≤ maxLen) : ∃ x y m, Rows9 x ∧ Rows9 y ∧ m.length ≤ 101 ∧ ∃ K, ∀ k, K ≤ k → spec_DrawBlockingPairs.f k l = some (x, y, m) := by
  obtain ⟨x, y, hx, hy, K1, h1⟩ := drawStable_ok hl hn
  have x1 : x.length ≤ 1048576 := by have := hx.1; omega
  have x2 : ∀ r ∈ x, r.length ≤ 1048576 := fun r h => by have := hx.2 r h; omega
  have y1 : y.length ≤ 1048576 := by have := hy.1; omega
  have y2 : ∀ r ∈ y, r.length ≤ 1048576 := fun r h => by have := hy.2 r h; omega
  obtain ⟨⟨K2, h2⟩, _⟩ := sides_both x y x1 x2 y1 y2
  have hj : ∀ (o : Bool) (p s : Int), 0 ≤ p → p ≤ 1000 → (o = true → sidesOk x y = true) → ∃ m p' s', m.length ≤ 101 ∧ ∃ K, ∀ k, K ≤ k → spec_DrawBlockingPairs.j0 k x y o l p s = some (x, y, m, p', s') := by
    intro o p s h0 h3 ho
    cases o with
    | true =>
      have hs2 := ho rfl
      simp only [sidesOk, Bool.and_eq_true, decide_eq_true_eq] at hs2
      obtain ⟨s1, s2, s3⟩ := hs2
      obtain ⟨p1, p2, p3⟩ := (prefsOk_iff x).1 s1
      obtain ⟨t1, t2, t3⟩ := (prefsOk_iff y).1 s2
      obtain ⟨m, E, K, h⟩ := spec_stable p3 rfl s3.symm p1 (by rw [s3]; exact t1)
      refine ⟨m, p, s, by have : m.length = x.length := E.len; omega, ev_suc K fun k hk => ?_⟩
      simp only [spec_DrawBlockingPairs.j0]
      rw [if_pos trivial, h k hk]
      rfl
    | false =>
      obtain ⟨m, p', s', e, hm, _⟩ := matchOf_ok hl hn s (n := (x.length : Int)) h0 (by omega) (by omega) (by have := hx.1; omega)
      refine ⟨m, p', s', hm, ev_suc 0 fun k _ => ?_⟩
      simp only [spec_DrawBlockingPairs.j0]
      rw [if_neg (by simp), e]
      rfl
  obtain ⟨o, p, s, e, q1, q2⟩ := one_ok hl hn 5 3 (p := 0) (by omega) (by omega)
  by_cases hc : sidesOk x y = true
  · obtain ⟨m, p', s', hm, K, h⟩ := hj o p s (by omega) (by omega) (fun _ => hc)
    refine ⟨x, y, m, hx, hy, hm, K1 + K2 + K, fun k hk => ?_⟩
    unfold spec_DrawBlockingPairs.f spec_DrawBlockingPairs.q
    rw [h1 k (by omega)]
    simp only [Option.bind_some]
    rw [h2 k (by omega)]
    simp only [Option.bind_some]
    rw [if_pos hc, e]
    simp only [Option.bind_some]
    rw [h k (by omega)]
    rfl
  · obtain ⟨m, p', s', hm, K, h⟩ := hj false 0 5 (by omega) (by omega) (fun h => by cases h)
    refine ⟨x, y, m, hx, hy, hm, K1 + K2 + K, fun k hk => ?_⟩
    unfold spec_DrawBlockingPairs.f spec_DrawBlockingPairs.q
    rw [h1 k (by omega)]
    simp only [Option.bind_some]
    rw [h2 k (by omega)]
    simp only [Option.bind_some]
    rw [if_neg hc, h k (by omega)]
    rfl
theorem qLists_ev (l : List (List Int)) (hl : l.length ≤ 1048576) (hx : ∀ x ∈ l, x.length ≤ 1048576) : ∃ K, ∀ k, K ≤ k → laws_qLists.f k l l = some true := by
  have h := ev_loop (F := fun k i => laws_qLists.l0 k l l (l.length : Int) (i : Int)) (n := l.length) (res := fun _ => true)
    (ev_suc 0 fun k _ => by simp only [laws_qLists.l0]; rw [if_neg (by omega)])
    (fun i hi K hK => by
      obtain ⟨K2, h2⟩ := qIntsM_ev l[i] (hx _ (List.getElem_mem hi))
      refine ev_suc (K + K2) fun k hk => ?_
      simp only [laws_qLists.l0]
      rw [if_pos (by omega), if_pos (by omega), if_pos (by omega), if_pos (by omega), rdLL_nat l i hi, h2 k (by omega)]
      simp only [Option.bind_some]
      rw [if_pos trivial, w64s (by omega)]
      exact hK k (by omega)) 0 (Nat.zero_le _)
  obtain ⟨K, h⟩ := h
  refine ⟨K, fun k hk => ?_⟩
  unfold laws_qLists.f
  rw [if_pos rfl]
  exact h k hk
theorem qInts_dec (x y : List Int) (hx : x.length ≤ 1048576) : ∃ K, ∀ k, K ≤ k → laws_qInts.f k x y = some (decide (x = y)) := by
  by_cases hl : x.length = y.length
  · have key : ∀ d i, i + d = x.length → ∃ K, ∀ k, K ≤ k → laws_qInts.l0 k x y (x.length : Int) (i : Int) = some (decide (x.drop i = y.drop i)) := by
      intro d
      induction d with
      | zero =>
        intro i hi
        refine ev_suc 0 fun k _ => ?_
        simp only [laws_qInts.l0]
        rw [if_neg (by omega), List.drop_of_length_le (by omega), List.drop_of_length_le (by omega)]
        rfl
      | succ d ih =>
        intro i hi
        obtain ⟨K, h⟩ := ih (i + 1) (by omega)
        have h1 : i < x.length := by omega
        have h2 : i < y.length := by omega
        refine ev_suc K fun k hk => ?_
        simp only [laws_qInts.l0]
        rw [if_pos (by omega), if_pos (by omega), if_pos (by omega), if_pos (by omega), rd_nat x i h1, rd_nat y i h2, List.drop_eq_getElem_cons h1, List.drop_eq_getElem_cons h2]
        by_cases e : x[i] = y[i]
        · rw [if_pos e, w64s (by omega), h k hk]
          congr 1
          exact decide_eq_decide.2 (by simp only [e, List.cons.injEq, true_and])
        · rw [if_neg e]
          congr 1
          exact (decide_eq_false (by simp only [e, List.cons.injEq, false_and, not_false_eq_true])).symm
    obtain ⟨K, h⟩ := key x.length 0 (by omega)
    refine ⟨K, fun k hk => ?_⟩
    unfold laws_qInts.f
    rw [if_pos (by omega)]
    have := h k hk
    simpa using this
  · refine ⟨0, fun k _ => ?_⟩
    unfold laws_qInts.f
    rw [if_neg (by omega)]
    congr 1
    exact (decide_eq_false (fun e => hl (by rw [e]))).symm
theorem blockingPairs_tells (a b : List (List Int)) (m : List Int) (ha2 : a.length ≤ 1048576) (hxa2 : ∀ x ∈ a, x.length ≤ 1048576) (hb2 : b.length ≤ 1048576) (hxb2 : ∀ x ∈ b, x.length ≤ 1048576) (hm2 : m.length ≤ 1048576) : ∃ (g : List (List Int)) (c : Bool), (∃ K, ∀ k, K ≤ k → spec_BlockingPairs.f k a b m = some (g, c)) ∧ (∃ K, ∀ k, K ≤ k → impl_BlockingPairs.f k a b m = some (g, c)) ∧ g.length ≤ 49 ∧ (∀ x ∈ g, x.length ≤ 2) ∧ (c = true → sidesOk a b = true ∧ isMatchP m (a.length : Int) ∧ (g.length = 0 ↔ NoBlock a b m)) ∧ (sidesOk a b = true → isMatchP m (a.length : Int) → c = true) := by
  obtain ⟨⟨K11, h11⟩, ⟨K12, h12⟩⟩ := sides_both a b ha2 hxa2 hb2 hxb2
  obtain ⟨K13, h13⟩ := maMatch_ev m hm2 (a.length : Int) (by omega)
  obtain ⟨K14, h14⟩ := implIsMatch_ev m hm2 (a.length : Int) (by omega)
  by_cases hs : sidesOk a b = true
  · have hs2 := hs
    simp only [sidesOk, Bool.and_eq_true, decide_eq_true_eq] at hs2
    obtain ⟨s1, s2, s3⟩ := hs2
    obtain ⟨p1, p2, p3⟩ := (prefsOk_iff a).1 s1
    obtain ⟨t1, t2, t3⟩ := (prefsOk_iff b).1 s2
    by_cases hmm : isMatchP m (a.length : Int)
    · obtain ⟨g, ⟨K1, h1⟩, ⟨K2, h2⟩, h3, h4⟩ := blocking_both a b m a.length p3 rfl s3.symm (by have := hmm.1; omega) p1 (by rw [s3]; exact t1) hmm
      refine ⟨g, true, ⟨K11 + K13 + K1, fun k hk => ?_⟩, ⟨K12 + K14 + K2, fun k hk => ?_⟩, h3, h4, fun _ => ⟨hs, hmm, fun h => ⟨g, ⟨K1, h1⟩, h⟩, fun ⟨g2, ⟨K3, h5⟩, h6⟩ => ?_⟩, fun _ _ => rfl⟩
      · unfold spec_BlockingPairs.f
        rw [h11 k (by omega)]
        simp only [Option.bind_some]
        rw [if_pos hs, h13 k (by omega)]
        simp only [Option.bind_some]
        rw [if_pos (decide_eq_true ⟨hmm, by omega, by omega⟩), h1 k (by omega)]
        rfl
      · unfold impl_BlockingPairs.f
        rw [h12 k (by omega)]
        simp only [Option.bind_some]
        rw [if_pos hs, h14 k (by omega)]
        simp only [Option.bind_some]
        rw [if_pos (decide_eq_true hmm), h2 k (by omega)]
        rfl
      · have := Option.some.inj ((h1 (K1 + K3) (by omega)).symm.trans (h5 (K1 + K3) (by omega)))
        rw [this]; exact h6
    · refine ⟨[], false, ⟨K11 + K13, fun k hk => ?_⟩, ⟨K12 + K14, fun k hk => ?_⟩, by simp, by simp, (fun h => by cases h), fun _ h => absurd h hmm⟩
      · unfold spec_BlockingPairs.f
        rw [h11 k (by omega)]
        simp only [Option.bind_some]
        rw [if_pos hs, h13 k (by omega)]
        simp only [Option.bind_some]
        rw [if_neg (by simp [hmm])]
      · unfold impl_BlockingPairs.f
        rw [h12 k (by omega)]
        simp only [Option.bind_some]
        rw [if_pos hs, h14 k (by omega)]
        simp only [Option.bind_some]
        rw [if_neg (by simp [hmm])]
  · refine ⟨[], false, ⟨K11, fun k hk => ?_⟩, ⟨K12, fun k hk => ?_⟩, by simp, by simp, (fun h => by cases h), fun h => absurd h hs⟩
    · unfold spec_BlockingPairs.f
      rw [h11 k (by omega)]
      simp only [Option.bind_some]
      rw [if_neg hs]
    · unfold impl_BlockingPairs.f
      rw [h12 k (by omega)]
      simp only [Option.bind_some]
      rw [if_neg hs]
theorem implSwap_tells (m : List Int) (hp : isMatchP m (m.length : Int)) (h1 : 1 ≤ m.length) (h2 : m.length ≤ 7) : ∃ K, ∀ k, K ≤ k → impl_SwapSides.f k m = some (swapTo m m.length, true) := by
  obtain ⟨K4, h4⟩ := implIsMatch_ev m (by omega) (m.length : Int) (by omega)
  obtain ⟨_, K6, h6⟩ := swap_ev m (by omega) hp
  refine ⟨K4 + K6, fun k hk => ?_⟩
  unfold impl_SwapSides.f
  rw [if_neg (by omega), if_neg (by omega), h4 k (by omega)]
  simp only [Option.bind_some]
  rw [if_pos (decide_eq_true hp), h6 k (by omega)]
  rfl
theorem stable_l0 {x5 x6 : List (List Int)} {x7 : List Int} {x8 : Bool} {x13 : Int} {x : List (List Int)} {kn l : List Int} {n : Nat} (hn : n ≤ 7) (hx : x.length = n) (hp : ∀ r ∈ x, isMatchP r (n : Int)) (hk : kn.length = n) (hkm : isMatchP kn (n : Int)) (hl : l.length = n) (hlm : isMatchP l (n : Int)) (H : ∀ i, i < n → pos (rowOf x i) (rd kn (i : Int)) ≤ pos (rowOf x i) (rd l (i : Int))) (hJ : ∃ K, ∀ k, K ≤ k → laws_FnStable.j4 k x5 x6 x7 x8 x13 = some true) : ∃ K, ∀ k, K ≤ k → laws_FnStable.l0 k x5 x6 x7 x8 x13 x kn l (l.length : Int) 0 = some true := by
  obtain ⟨KJ, hJ⟩ := hJ
  have h := ev_loop (F := fun k i => laws_FnStable.l0 k x5 x6 x7 x8 x13 x kn l (l.length : Int) (i : Int)) (n := l.length) (res := fun _ => true)
    (ev_suc KJ fun k hk => by simp only [laws_FnStable.l0]; rw [if_neg (by omega)]; exact hJ k hk)
    (fun i hi K hK => by
      have hr := row_match hx hp i (by omega)
      have hrl : (rowOf x i).length = n := by have := hr.1; omega
      have q1 := match_at hk hkm i (by omega)
      have hin := match_all hr _ q1.1 q1.2.1
      obtain ⟨g1, g2⟩ := pos_get (rowOf x i) (rd kn (i : Int)) hin
      have hle := H i (by omega)
      have inner : ∀ d q, q + d = pos (rowOf x i) (rd kn (i : Int)) → ∃ K, ∀ k, K ≤ k → laws_FnStable.l1 k x5 x6 x7 x8 x13 x kn (i : Int) (rd l (i : Int)) l (l.length : Int) (i : Int) (rowOf x i) ((rowOf x i).length : Int) (q : Int) = some true := by
        intro d
        induction d with
        | zero =>
          intro q hq
          have e : rd (rowOf x i) (q : Int) = rd kn (i : Int) := by
            rw [rd_nat _ q (by omega), ← g2]
            congr 1
          refine ev_suc K fun k hk => ?_
          simp only [laws_FnStable.l1]
          rw [if_pos (by omega), if_pos (by omega), if_pos (by omega), if_pos (by omega), if_pos (by omega), if_pos e, w64s (by omega)]
          exact hK k hk
        | succ d ih =>
          intro q hq
          obtain ⟨K2, h2⟩ := ih (q + 1) (by omega)
          have e0 : pos (rowOf x i) (rd (rowOf x i) (q : Int)) = q := by
            rw [rd_nat _ q (by omega)]
            exact pos_at hr.2.2 q (by omega)
          have e1 : ¬ rd (rowOf x i) (q : Int) = rd kn (i : Int) := fun e => by rw [e] at e0; omega
          have e2 : ¬ rd (rowOf x i) (q : Int) = rd l (i : Int) := fun e => by rw [e] at e0; omega
          refine ev_suc K2 fun k hk => ?_
          simp only [laws_FnStable.l1]
          rw [if_pos (by omega), if_pos (by omega), if_pos (by omega), if_pos (by omega), if_pos (by omega), if_neg e1, if_neg e2, w64s (by omega)]
          exact h2 k hk
      obtain ⟨K3, h3⟩ := inner (pos (rowOf x i) (rd kn (i : Int))) 0 (by omega)
      refine ev_suc K3 fun k hk => ?_
      simp only [laws_FnStable.l0]
      rw [if_pos (by omega), if_pos (by omega), if_pos (by omega), if_pos (by omega)]
      exact h3 k hk) 0 (Nat.zero_le _)
  exact h
theorem FnStable : laws_FnStable.Pure := by
  intro l0 l1 h1 _ hw1 h2 _ hw2
  obtain ⟨a, b, ha, hb, Ka, ea⟩ := drawStable_ok (bytes_of hw1) h1
  obtain ⟨x, y, l, hx, hy, hl, Kb, eb⟩ := drawBlocking_ok (bytes_of hw2) h2
  have a1 : a.length ≤ 1048576 := by have := ha.1; omega
  have a2 : ∀ r ∈ a, r.length ≤ 1048576 := fun r h => by have := ha.2 r h; omega
  have b1 : b.length ≤ 1048576 := by have := hb.1; omega
  have b2 : ∀ r ∈ b, r.length ≤ 1048576 := fun r h => by have := hb.2 r h; omega
  have x1 : x.length ≤ 1048576 := by have := hx.1; omega
  have x2 : ∀ r ∈ x, r.length ≤ 1048576 := fun r h => by have := hx.2 r h; omega
  have y1 : y.length ≤ 1048576 := by have := hy.1; omega
  have y2 : ∀ r ∈ y, r.length ≤ 1048576 := fun r h => by have := hy.2 r h; omega
  obtain ⟨m, ok, ⟨K1, e1⟩, ⟨K2, e2⟩, m7, rfl, hE⟩ := stable_both a b a1 a2 b1 b2
  obtain ⟨⟨cnt, ok2⟩, ⟨K3, e3⟩, ⟨K4, e4⟩, hok2, _, hcnt⟩ := countStable_both a b a1 a2 b1 b2
  simp only at hok2 hcnt
  subst hok2
  obtain ⟨g, c, ⟨K5, e5⟩, ⟨K6, e6⟩, g49, g2, hc1, _⟩ := blockingPairs_tells x y l x1 x2 y1 y2 (by omega)
  obtain ⟨K7, e7⟩ := qIntsM_ev m (by omega)
  obtain ⟨K8, e8⟩ := qLists_ev g (by omega) (fun r h => by have := g2 r h; omega)
  obtain ⟨K9, e9⟩ := implArePreferences_ev a a1 a2
  obtain ⟨K10, e10⟩ := maPreferences_ev a a1 a2
  -- what holds behind the loop
  have hJ : ∃ K, ∀ k, K ≤ k → laws_FnStable.j4 k a b m (sidesOk a b) cnt = some true := by
    by_cases hok : sidesOk a b = true
    · obtain ⟨nb, c', ⟨_, _⟩, ⟨K11, e11⟩, _, _, hc2, hc3⟩ := blockingPairs_tells a b m a1 a2 b1 b2 (by omega)
      obtain ⟨t, ok3, ⟨K13, e13⟩, ⟨K14, e14⟩, t7, hok3, hE2⟩ := stable_both b a b1 b2 a1 a2
      obtain ⟨K15, e15⟩ := qIntsM_ev t (by omega)
      obtain ⟨K16, e16⟩ := qInts_dec (swapTo m m.length) t (by rw [swapTo_length]; omega)
      have hs2 := hok
      simp only [sidesOk, Bool.and_eq_true, decide_eq_true_eq] at hs2
      obtain ⟨s1, s2, s3⟩ := hs2
      obtain ⟨p1, p2, p3⟩ := (prefsOk_iff a).1 s1
      obtain ⟨t1, t2, t3⟩ := (prefsOk_iff b).1 s2
      have hok' : sidesOk b a = true := by simp [sidesOk, s1, s2, s3]
      obtain ⟨_, _, _, _, E⟩ := hE hok
      obtain ⟨_, _, _, _, E2⟩ := hE2 hok'
      have B1 := ends_tell p3 E
      have B2 := ends_tell (by omega) E2
      rw [← s3] at B2 t1
      have hct := hcnt hok
      obtain ⟨f1, f2⟩ := count_tells p3 rfl s3.symm p1 t1 B1 B2
      rw [← hct] at f1 f2
      have hm1 : m.length = a.length := B1.1
      have hm2 : isMatchP m (m.length : Int) := by rw [hm1]; exact B1.2.1
      obtain ⟨K12, e12⟩ := implSwap_tells m hm2 (by omega) (by omega)
      have hcc := hc3 hok B1.2.1
      subst hcc
      have hnb := (hc2 rfl).2.2.2 B1.2.2.1
      rw [hok'] at hok3
      subst hok3
      refine ev_suc (K11 + K12 + K13 + K14 + K15 + K16) fun k hk => ?_
      simp only [laws_FnStable.j4]
      rw [if_pos hok, e11 k (by omega), e12 k (by omega), e14 k (by omega), e13 k (by omega)]
      simp only [Option.bind_some, if_true]
      rw [if_neg (by omega), e15 k (by omega)]
      simp only [Option.bind_some, if_true]
      rw [e16 k (by omega)]
      simp only [Option.bind_some]
      congr 1
      by_cases hq : cnt = 1
      · simp [f2.2 hq, hq]
      · have : ¬ swapTo m m.length = t := fun e => hq (f2.1 e)
        simp [this, hq]
    · refine ev_suc 0 fun k _ => ?_
      simp only [laws_FnStable.j4]
      rw [if_neg hok]
  have hcnt1 : sidesOk a b = true → ¬ cnt < 1 := by
    intro hok
    have hs2 := hok
    simp only [sidesOk, Bool.and_eq_true, decide_eq_true_eq] at hs2
    obtain ⟨s1, s2, s3⟩ := hs2
    obtain ⟨p1, p2, p3⟩ := (prefsOk_iff a).1 s1
    obtain ⟨_, _, _, _, E⟩ := hE hok
    have B1 := ends_tell p3 E
    have hin : m ∈ allFrom a.length a.length [] := allFrom_all _ _ [] m (by simp) B1.1 ⟨B1.2.1.2.2, B1.2.1.2.1⟩ (by simp)
    have := (cnt_facts a b (allFrom a.length a.length []) 0).2.2.1 m hin B1.2.2.1
    rw [← hcnt hok] at this
    omega
  have hj0 : ∃ K, ∀ k, K ≤ k → laws_FnStable.j0 k a b m (sidesOk a b) cnt x y l c g false = some true := by
    obtain ⟨KJ, hJ2⟩ := hJ
    by_cases hc : c = true
    · obtain ⟨hok, hlm, hg0⟩ := hc1 hc
      obtain ⟨kn, ok4, ⟨K11, e11⟩, ⟨K12, e12⟩, k7, hok4, hE4⟩ := stable_both x y x1 x2 y1 y2
      rw [hok] at hok4
      subst hok4
      have hs2 := hok
      simp only [sidesOk, Bool.and_eq_true, decide_eq_true_eq] at hs2
      obtain ⟨s1, s2, s3⟩ := hs2
      obtain ⟨p1, p2, p3⟩ := (prefsOk_iff x).1 s1
      obtain ⟨_, _, _, _, E⟩ := hE4 hok
      obtain ⟨B1, B2, B3, B4⟩ := ends_tell p3 E
      obtain ⟨K13, e13⟩ := qIntsM_ev kn (by omega)
      have hll : l.length = x.length := by have := hlm.1; omega
      have hj1 : ∃ K, ∀ k, K ≤ k → laws_FnStable.j1 k a b m (sidesOk a b) cnt x l g kn (!true) = some true := by
        by_cases hg : g.length = 0
        · obtain ⟨K14, e14⟩ := stable_l0 (x5 := a) (x6 := b) (x7 := m) (x8 := sidesOk a b) (x13 := cnt) p3 rfl p1 B1 B2 hll hlm (fun i hi => B4 l hll hlm (hg0.1 hg) i hi) ⟨KJ, hJ2⟩
          refine ev_suc K14 fun k hk => ?_
          simp only [laws_FnStable.j1]
          rw [if_neg (by simp), if_pos (by omega)]
          exact e14 k hk
        · refine ev_suc KJ fun k hk => ?_
          simp only [laws_FnStable.j1]
          rw [if_neg (by simp), if_neg (by omega)]
          exact hJ2 k hk
      obtain ⟨K15, e15⟩ := hj1
      refine ev_suc (K11 + K12 + K13 + K15) fun k hk => ?_
      simp only [laws_FnStable.j0]
      rw [if_neg (by simp), if_pos hc, e12 k (by omega), e11 k (by omega)]
      simp only [Option.bind_some, if_true]
      rw [e13 k (by omega)]
      simp only [Option.bind_some]
      exact e15 k (by omega)
    · refine ev_suc KJ fun k hk => ?_
      simp only [laws_FnStable.j0]
      rw [if_neg (by simp), if_neg hc]
      exact hJ2 k hk
  obtain ⟨K11, e11⟩ := hj0
  obtain ⟨B, hB⟩ : ∃ B, B = Ka + Kb + K1 + K2 + K3 + K4 + K5 + K6 + K7 + K8 + K9 + K10 + K11 := ⟨_, rfl⟩
  refine ⟨B, ?_⟩
  unfold laws_FnStable.f
  by_cases c0 : wrap64 ((l0.length : Int) + (l1.length : Int)) > 1048576
  · rw [if_pos c0]
  rw [if_neg c0, ea B (by omega)]
  simp only [Option.bind_some]
  rw [e2 B (by omega), e1 B (by omega), e4 B (by omega), e3 B (by omega), eb B (by omega)]
  simp only [Option.bind_some]
  rw [e6 B (by omega), e5 B (by omega)]
  simp only [Option.bind_some, bne_self_eq_false, Bool.false_eq_true, if_false, if_true]
  rw [e7 B (by omega)]
  simp only [Option.bind_some, if_true]
  rw [e8 B (by omega)]
  simp only [Option.bind_some, if_true]
  rw [e9 B (by omega), show spec_ArePreferences.f B a = spec_maPreferences.f B a from by unfold spec_ArePreferences.f; cases spec_maPreferences.f B a <;> rfl, e10 B (by omega)]
  simp only [Option.bind_some, bne_self_eq_false, Bool.false_eq_true, if_false, if_true]
  by_cases hok : sidesOk a b = true
  · rw [if_pos hok, decide_eq_false (hcnt1 hok)]
    exact e11 B (by omega)
  · rw [if_neg hok]
    exact e11 B (by omega)

end Go.Proofs.Ytjipboafhakjfaa.Pure
