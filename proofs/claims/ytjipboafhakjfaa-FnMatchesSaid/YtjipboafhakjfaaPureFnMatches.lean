/- THE PURE SIDE OF FnMatches: the printed functions of the reference and of the program give the same results. Plain Lean: no memory and no Go. -/
import Derived.Test.YtjipboafhakjfaaPFnMatchesx9
import Derived.OpenShut
import Derived.Laws.Bits64b
namespace Go.Proofs.Ytjipboafhakjfaa.Pure
open Go.RowKit Go.Proofs.Ytjipboafhakjfaa.PFnMatches Go.Proofs.YtjipboafhakjfaaW.PrintWords Go.Proofs.YtjipboafhakjfaaW.PrintLast Go.Proofs.YtjipboafhakjfaaW.PrintMore
set_option linter.unusedVariables false
set_option linter.unusedSimpArgs false

theorem w64 {x : Int} (h1 : -9223372036854775808 ≤ x) (h2 : x ≤ 9223372036854775807) : wrap64 x = x := by unfold wrap64; omega
theorem w64s {i : Nat} (h : i ≤ 9000000000000000000) : wrap64 ((i : Int) + 1) = ((i + 1 : Nat) : Int) := by rw [w64 (by omega) (by omega)]; omega
theorem rd_nat (l : List Int) (i : Nat) (h : i < l.length) : rd l (i : Int) = l[i] := by simp [rd, List.getD_eq_getElem?_getD, h]
def inr (lo hi x : Int) : Bool := decide (lo ≤ x) && decide (x ≤ hi)
theorem inr_iff (lo hi x : Int) : inr lo hi x = true ↔ lo ≤ x ∧ x ≤ hi := by simp [inr]
theorem inr_false (lo hi x : Int) : inr lo hi x = false ↔ ¬ (lo ≤ x ∧ x ≤ hi) := by rw [← inr_iff, Bool.not_eq_true]
theorem l1In_eq (a b c : Int) : spec_l1In.f a b c = some (inr b c a) := by
  unfold spec_l1In.f inr
  by_cases h : a ≥ b
  · rw [if_pos h]; simp [show b ≤ a from h]
  · rw [if_neg h]; simp [show ¬ b ≤ a from h]
theorem l1All_l0 (lo hi : Int) (l : List Int) (hl : l.length ≤ 9000000000000000000) : ∀ (d k i : Nat), i + d = l.length → d < k → spec_l1All.l0 k lo hi l (l.length : Int) (i : Int) = some ((l.drop i).all (inr lo hi)) := by
  intro d
  induction d with
  | zero =>
    intro k i hi' hk
    obtain ⟨k, rfl⟩ : ∃ m, k = m + 1 := ⟨k - 1, by omega⟩
    simp only [spec_l1All.l0]
    rw [if_neg (by omega), List.drop_of_length_le (by omega)]; rfl
  | succ d ih =>
    intro k i hi' hk
    obtain ⟨k, rfl⟩ : ∃ m, k = m + 1 := ⟨k - 1, by omega⟩
    have hlt : i < l.length := by omega
    simp only [spec_l1All.l0]
    rw [if_pos (by omega), if_pos (by omega), if_pos (by omega), l1In_eq, List.drop_eq_getElem_cons hlt, List.all_cons, rd_nat l i hlt, w64s (by omega), ih k (i + 1) (by omega) (by omega)]
    simp only [Option.bind_some]
    by_cases h : inr lo hi l[i] = true
    · rw [if_pos h, h, Bool.true_and]
    · rw [if_neg h, Bool.eq_false_iff.mpr h, Bool.false_and]
theorem l1All_eq (lo hi : Int) (l : List Int) (hl : l.length ≤ 9000000000000000000) (k : Nat) (hk : l.length < k) : spec_l1All.f k l lo hi = some (l.all (inr lo hi)) := by
  unfold spec_l1All.f
  exact l1All_l0 lo hi l hl l.length k 0 (by omega) hk
theorem ev_loop {β : Type} {F : Nat → Nat → Option β} {n : Nat} {res : Nat → β} (last : ∃ K, ∀ k, K ≤ k → F k n = some (res n)) (step : ∀ i, i < n → ∀ K, (∀ k, K ≤ k → F k (i + 1) = some (res (i + 1))) → ∃ K, ∀ k, K ≤ k → F k i = some (res i)) : ∀ i, i ≤ n → ∃ K, ∀ k, K ≤ k → F k i = some (res i) := by
  have key : ∀ d i, i + d = n → ∃ K, ∀ k, K ≤ k → F k i = some (res i) := by
    intro d
    induction d with
    | zero => intro i h; obtain rfl : i = n := by omega
              exact last
    | succ d ih =>
      intro i h
      obtain ⟨K, hK⟩ := ih (i + 1) (by omega)
      exact step i (by omega) K hK
  exact fun i h => key (n - i) i (by omega)
/-- One round more. -/
theorem ev_suc {β : Type} {g : Nat → Option β} {r : β} (K : Nat) (h : ∀ k, K ≤ k → g (k + 1) = some r) : ∃ K, ∀ k, K ≤ k → g k = some r :=
  ⟨K + 1, fun k hk => by obtain ⟨k, rfl⟩ : ∃ m, k = m + 1 := ⟨k - 1, by omega⟩; exact h k (by omega)⟩
theorem rdLL_nat (l : List (List Int)) (i : Nat) (h : i < l.length) : rd_L1 l (i : Int) = l[i] := by simp [rd_L1, List.getD_eq_getElem?_getD, h]
theorem l1All_ev (lo hi : Int) (l : List Int) (hl : l.length ≤ 1048576) : ∃ K, ∀ k, K ≤ k → spec_l1All.f k l lo hi = some (l.all (inr lo hi)) :=
  ⟨l.length + 1, fun k hk => l1All_eq lo hi l (by omega) k (by omega)⟩

def costsOk (l : List (List Int)) : Bool := (l.all fun x => decide (x.length = l.length) && x.all (inr 0 10000)) && inr 1 7 (l.length : Int)
theorem costsOk_iff (l : List (List Int)) : costsOk l = true ↔ (∀ x ∈ l, x.length = l.length ∧ ∀ z ∈ x, 0 ≤ z ∧ z ≤ 10000) ∧ 1 ≤ l.length ∧ l.length ≤ 7 := by
  simp only [costsOk, Bool.and_eq_true, List.all_eq_true, decide_eq_true_eq, inr_iff]
  constructor
  · rintro ⟨h1, h2, h3⟩
    exact ⟨h1, by omega, by omega⟩
  · rintro ⟨h1, h2, h3⟩
    exact ⟨h1, by omega, by omega⟩
theorem maCosts_ev (l : List (List Int)) (hl : l.length ≤ 1048576) (hx : ∀ x ∈ l, x.length ≤ 1048576) : ∃ K, ∀ k, K ≤ k → spec_maCosts.f k l = some (costsOk l) := by
  have h := ev_loop (F := fun k i => spec_maCosts.l0 k l l (l.length : Int) (i : Int)) (n := l.length) (res := fun i => ((l.drop i).all fun x => decide (x.length = l.length) && x.all (inr 0 10000)) && inr 1 7 (l.length : Int))
    (ev_suc 0 fun k _ => by
      simp only [spec_maCosts.l0]
      rw [if_neg (by omega), l1In_eq, List.drop_of_length_le (Nat.le_refl _)]
      rfl)
    (fun i hi K hK => by
      obtain ⟨K2, h2⟩ := l1All_ev 0 10000 l[i] (hx _ (List.getElem_mem hi))
      exact ev_suc (max K K2) fun k hk => by
        simp only [spec_maCosts.l0]
        rw [if_pos (by omega), if_pos (by omega), if_pos (by omega), rdLL_nat l i hi, List.drop_eq_getElem_cons hi, List.all_cons]
        by_cases h3 : l[i].length = l.length
        · rw [if_pos (by omega), h2 k (by omega), decide_eq_true h3, Bool.true_and]
          simp only [Option.bind_some]
          by_cases h4 : l[i].all (inr 0 10000) = true
          · rw [if_pos h4, h4, Bool.true_and, w64s (by omega)]
            exact hK k (by omega)
          · rw [if_neg h4, Bool.eq_false_iff.mpr h4, Bool.false_and, Bool.false_and]
        · rw [if_neg (by omega), decide_eq_false h3]
          simp only [Bool.false_and]) 0 (Nat.zero_le _)
  exact h
theorem implAreCosts_l1 (l row : List (List Int)) (n i : Int) (c : List Int) (hc : c.length ≤ 1048576) (R : Bool) (K : Nat) (h : ∀ k, K ≤ k → impl_AreCosts.l0 k l row n (wrap64 (i + 1)) = some R) :
    ∃ K, ∀ k, K ≤ k → impl_AreCosts.l1 k l row n i c (c.length : Int) 0 = some (c.all (inr 0 10000) && R) := by
  have h := ev_loop (F := fun k j => impl_AreCosts.l1 k l row n i c (c.length : Int) (j : Int)) (n := c.length) (res := fun j => (c.drop j).all (inr 0 10000) && R)
    (ev_suc K fun k hk => by
      simp only [impl_AreCosts.l1]
      rw [if_neg (by omega), List.drop_of_length_le (Nat.le_refl _), h k hk]
      rfl)
    (fun j hj K hK => ev_suc K fun k hk => by
      simp only [impl_AreCosts.l1]
      rw [if_pos (by omega), if_pos (by omega), if_pos (by omega), rd_nat c j hj, List.drop_eq_getElem_cons hj, List.all_cons]
      by_cases h1 : c[j] < 0
      · rw [if_pos h1, (inr_false _ _ _).2 (by omega)]; rfl
      · rw [if_neg h1]
        by_cases h2 : c[j] > 10000
        · rw [if_pos h2, (inr_false _ _ _).2 (by omega)]; rfl
        · rw [if_neg h2, (inr_iff _ _ _).2 (by omega), w64s (by omega), hK k hk]; rfl) 0 (Nat.zero_le _)
  exact h
theorem implAreCosts_ev (l : List (List Int)) (hl : l.length ≤ 1048576) (hx : ∀ x ∈ l, x.length ≤ 1048576) : ∃ K, ∀ k, K ≤ k → impl_AreCosts.f k l = some (costsOk l) := by
  have h := ev_loop (F := fun k i => impl_AreCosts.l0 k l l (l.length : Int) (i : Int)) (n := l.length) (res := fun i => (l.drop i).all fun x => decide (x.length = l.length) && x.all (inr 0 10000))
    (ev_suc 0 fun k _ => by
      simp only [impl_AreCosts.l0]
      rw [if_neg (by omega), List.drop_of_length_le (Nat.le_refl _)]
      rfl)
    (fun i hi K hK => by
      obtain ⟨K2, h2⟩ := implAreCosts_l1 l l (l.length : Int) (i : Int) l[i] (hx _ (List.getElem_mem hi)) _ K (by rw [w64s (by omega)]; exact hK)
      exact ev_suc K2 fun k hk => by
        simp only [impl_AreCosts.l0]
        rw [if_pos (by omega), if_pos (by omega), if_pos (by omega), rdLL_nat l i hi, List.drop_eq_getElem_cons hi, List.all_cons]
        by_cases h3 : l[i].length = l.length
        · rw [if_pos (by omega), h2 k hk, decide_eq_true h3, Bool.true_and]
        · rw [if_neg (by omega), decide_eq_false h3]
          simp only [Bool.false_and]) 0 (Nat.zero_le _)
  obtain ⟨K, h⟩ := h
  refine ev_suc K fun k hk => ?_
  have hk2 := h k hk
  unfold impl_AreCosts.f costsOk
  by_cases h1 : (l.length : Int) < 1
  · rw [if_pos h1, (inr_false _ _ _).2 (by omega), Bool.and_false]
    simp only [impl_AreCosts.j0]
    rw [if_pos trivial]
  · rw [if_neg h1]
    simp only [impl_AreCosts.j0]
    by_cases h2 : (l.length : Int) > 7
    · rw [if_pos (by simpa using h2), (inr_false _ _ _).2 (by omega), Bool.and_false]
    · rw [if_neg (by simpa using h2), (inr_iff _ _ _).2 (by omega), Bool.and_true]
      exact hk2
/-- A number put into an increasing list, unless it is there. -/
def put : List Int → Int → List Int
  | [], n => [n]
  | x :: r, n => if x < n then x :: put r n else if x = n then x :: r else n :: x :: r
theorem put_mem (n z : Int) : ∀ l : List Int, z ∈ put l n ↔ z = n ∨ z ∈ l := by
  intro l
  induction l with
  | nil => simp [put]
  | cons x r ih =>
    simp only [put]
    split
    · rw [List.mem_cons, ih, List.mem_cons]
      constructor
      · rintro (h | h | h) <;> simp [h]
      · rintro (h | h | h) <;> simp [h]
    · split
      · rename_i h
        rw [List.mem_cons]
        constructor
        · intro h2; exact .inr h2
        · rintro (h2 | h2)
          · exact .inl (h2.trans h.symm)
          · exact h2
      · simp
theorem put_sorted (n : Int) : ∀ l : List Int, l.Pairwise (· < ·) → (put l n).Pairwise (· < ·) := by
  intro l
  induction l with
  | nil => intro _; simp [put]
  | cons x r ih =>
    intro h
    obtain ⟨h1, h2⟩ := List.pairwise_cons.1 h
    simp only [put]
    split
    · rename_i hx
      refine List.pairwise_cons.2 ⟨fun z hz => ?_, ih h2⟩
      rcases (put_mem n z r).1 hz with rfl | hz
      · exact hx
      · exact h1 z hz
    · split
      · exact h
      · refine List.pairwise_cons.2 ⟨fun z hz => ?_, h⟩
        rcases List.mem_cons.1 hz with rfl | hz
        · omega
        · have := h1 z hz
          omega
theorem put_length (n : Int) : ∀ l : List Int, l.Pairwise (· < ·) → (put l n).length = if n ∈ l then l.length else l.length + 1 := by
  intro l
  induction l with
  | nil => intro _; simp [put]
  | cons x r ih =>
    intro h
    obtain ⟨h1, h2⟩ := List.pairwise_cons.1 h
    simp only [put]
    split
    · rename_i hx
      rw [List.length_cons, ih h2, List.length_cons]
      have e : n ∈ x :: r ↔ n ∈ r := by
        rw [List.mem_cons]
        constructor
        · rintro (h | h)
          · omega
          · exact h
        · exact .inr
      by_cases hn : n ∈ r
      · rw [if_pos hn, if_pos (e.2 hn)]
      · rw [if_neg hn, if_neg (fun h => hn (e.1 h))]
    · split
      · rename_i hx
        rw [if_pos (by rw [← hx]; exact List.mem_cons_self)]
      · rw [if_neg (fun hn => by
          rcases List.mem_cons.1 hn with hn | hn
          · omega
          · have := h1 n hn
            omega)]
        rfl
theorem l1Put_ev (l : List Int) (hl : l.length ≤ 2097152) (n : Int) : ∃ K, ∀ k, K ≤ k → spec_l1Put.f k l n = some (put l n) := by
  have h := ev_loop (F := fun k i => spec_l1Put.l0 k l n (i : Int)) (n := l.length) (res := fun i => l.take i ++ put (l.drop i) n)
    (ev_suc 0 fun k _ => by
      simp only [spec_l1Put.l0]
      rw [if_neg (by omega)]
      simp only [Option.bind_some]
      rw [if_pos (by omega), if_pos (by omega)]
      simp only [Option.bind_some, Int.toNat_natCast, List.nil_append, List.take_length, List.drop_length, List.length_nil, Nat.zero_add]
      rw [if_pos (by omega)]
      try simp only [Option.bind_some]
      rw [if_pos (by omega)]
      try simp only [Option.bind_some, List.length_append, List.length_singleton, List.length_nil]
      rw [if_pos (by omega)]
      simp [put])
    (fun i hi K hK => ev_suc K fun k hk => by
      simp only [spec_l1Put.l0]
      rw [if_pos (by omega), if_pos (by omega), rd_nat l i hi, List.drop_eq_getElem_cons hi]
      simp only [put]
      by_cases h1 : l[i] < n
      · rw [if_pos h1, if_pos h1, w64s (by omega), hK k hk, List.take_succ_eq_append_getElem hi, List.append_assoc, List.singleton_append]
      · rw [if_neg h1, if_neg h1]
        by_cases h2 : l[i] = n
        · rw [if_pos h2, if_pos h2, ← List.drop_eq_getElem_cons hi, List.take_append_drop]
        · rw [if_neg h2, if_neg h2]
          simp only [Option.bind_some]
          rw [if_pos (by omega)]
          simp only [Option.bind_some, Int.toNat_natCast, List.nil_append, List.length_nil, Nat.zero_add]
          rw [if_pos (by rw [List.length_take]; omega)]
          try simp only [Option.bind_some]
          rw [if_pos (by rw [List.length_take]; omega)]
          try simp only [Option.bind_some]
          rw [if_pos (by simp only [List.length_append, List.length_take, List.length_drop, List.length_singleton]; omega), ← List.drop_eq_getElem_cons hi]
          simp) 0 (Nat.zero_le _)
  simpa [spec_l1Put.f] using h
/-- A list that has all numbers from 0 to n - 1. -/
def isMatchP (l : List Int) (n : Int) : Prop := (l.length : Int) = n ∧ (∀ x ∈ l, 0 ≤ x ∧ x < n) ∧ l.Nodup
instance (l : List Int) (n : Int) : Decidable (isMatchP l n) := by unfold isMatchP; exact inferInstance
def metOf (l : List Int) : List Int := l.foldl put []
theorem met_snoc (l : List Int) (x : Int) : metOf (l ++ [x]) = put (metOf l) x := by simp [metOf, List.foldl_append]
theorem met_facts (l : List Int) : ∀ i, i ≤ l.length → (metOf (l.take i)).Pairwise (· < ·) ∧ (∀ z, z ∈ metOf (l.take i) ↔ z ∈ l.take i) ∧ (metOf (l.take i)).length ≤ i ∧ ((metOf (l.take i)).length = i ↔ (l.take i).Nodup) := by
  intro i
  induction i with
  | zero => intro _; simp [metOf]
  | succ i ih =>
    intro hi
    have hlt : i < l.length := by omega
    obtain ⟨h1, h2, h3, h4⟩ := ih (by omega)
    rw [List.take_succ_eq_append_getElem hlt, met_snoc]
    refine ⟨put_sorted _ _ h1, fun z => ?_, ?_, ?_⟩
    · rw [put_mem, h2 z, List.mem_append, List.mem_singleton]
      exact Or.comm
    · rw [put_length _ _ h1]
      split <;> omega
    · rw [put_length _ _ h1, List.nodup_append]
      by_cases hm : l[i] ∈ metOf (l.take i)
      · rw [if_pos hm]
        constructor
        · intro h; omega
        · rintro ⟨_, _, h⟩
          exact absurd rfl (h _ ((h2 _).1 hm) _ (List.mem_singleton.2 rfl))
      · rw [if_neg hm]
        constructor
        · intro h
          refine ⟨h4.1 (by omega), by simp, fun a ha b hb => ?_⟩
          rw [List.mem_singleton.1 hb]
          rintro rfl
          exact hm ((h2 _).2 ha)
        · rintro ⟨h, _, _⟩
          have := h4.2 h
          omega
theorem maMatch_ev (l : List Int) (hl : l.length ≤ 1048576) (n : Int) (hn : 0 ≤ n ∧ n ≤ 1048576) : ∃ K, ∀ k, K ≤ k → spec_maMatch.f k l n = some (decide (isMatchP l n ∧ 1 ≤ n ∧ n ≤ 7)) := by
  obtain ⟨f1, f2, f3, f4⟩ := met_facts l l.length (Nat.le_refl _)
  rw [List.take_length] at f1 f2 f3 f4
  obtain ⟨Ka, ha⟩ := l1All_ev 0 (n - 1) l hl
  have h := ev_loop (F := fun k i => spec_maMatch.l0 k l n (metOf (l.take i)) l (l.length : Int) (i : Int)) (n := l.length) (res := fun _ => decide (isMatchP l n ∧ 1 ≤ n ∧ n ≤ 7))
    (ev_suc Ka fun k hk => by
      simp only [spec_maMatch.l0]
      rw [if_neg (by omega), List.take_length, l1In_eq, w64 (by omega) (by omega), ha k hk]
      simp only [Option.bind_some]
      by_cases h1 : (l.length : Int) = n
      · rw [if_pos h1]
        by_cases h2 : ((metOf l).length : Int) = n
        · rw [if_pos h2]
          have hnd : l.Nodup := f4.1 (by omega)
          by_cases h3 : inr 1 7 n = true
          · rw [if_pos h3]
            have h3' := (inr_iff _ _ _).1 h3
            congr 1
            rw [Bool.eq_iff_iff, List.all_eq_true, decide_eq_true_eq]
            simp only [inr_iff]
            constructor
            · intro h4
              exact ⟨⟨h1, fun x hx => by have := h4 x hx; omega, hnd⟩, h3'⟩
            · rintro ⟨⟨_, h4, _⟩, _⟩ x hx
              have := h4 x hx
              omega
          · rw [if_neg h3, decide_eq_false (fun h4 => h3 ((inr_iff _ _ _).2 h4.2))]
        · rw [if_neg h2, decide_eq_false (fun h4 => h2 (by have := f4.2 h4.1.2.2; omega))]
      · rw [if_neg h1, decide_eq_false (fun h4 => h1 h4.1.1)])
    (fun i hi K hK => by
      obtain ⟨_, _, f5, _⟩ := met_facts l i (by omega)
      obtain ⟨K2, h2⟩ := l1Put_ev (metOf (l.take i)) (by omega) l[i]
      exact ev_suc (max K K2) fun k hk => by
        simp only [spec_maMatch.l0]
        rw [if_pos (by omega), if_pos (by omega), if_pos (by omega), rd_nat l i hi, h2 k (by omega)]
        simp only [Option.bind_some]
        rw [w64s (by omega), ← met_snoc, ← List.take_succ_eq_append_getElem hi]
        exact hK k (by omega)) 0 (Nat.zero_le _)
  simpa [spec_maMatch.f, metOf] using h
def seenOf (l : List Int) (n : Nat) : List Bool := (List.range n).map fun (j : Nat) => decide ((j : Int) ∈ l)
theorem seen_length (l : List Int) (n : Nat) : (seenOf l n).length = n := by simp [seenOf]
theorem seen_at (l : List Int) (n : Nat) (x : Int) (h0 : 0 ≤ x) (h1 : x < n) : rdOf false (seenOf l n) x = decide (x ∈ l) := by
  have hx : x.toNat < n := by omega
  simp only [rdOf, seenOf, List.getD_eq_getElem?_getD, List.getElem?_map]
  rw [List.getElem?_range hx]
  simp only [Option.map_some, Option.getD_some]
  rw [Int.toNat_of_nonneg h0]
theorem seen_set (l : List Int) (n : Nat) (x : Int) (h0 : 0 ≤ x) (h1 : x < n) : (seenOf l n).set x.toNat true = seenOf (l ++ [x]) n := by
  apply List.ext_getElem
  · simp [seenOf]
  · intro j hj hj2
    simp only [List.length_set, seen_length] at hj
    rw [List.getElem_set]
    simp only [seenOf, List.getElem_map, List.getElem_range, List.mem_append, List.mem_singleton]
    by_cases hx : x.toNat = j
    · rw [if_pos hx]
      have : (j : Int) = x := by omega
      simp [this]
    · rw [if_neg hx]
      have : ¬ (j : Int) = x := by omega
      simp [this]
theorem implIsMatch_ev (l : List Int) (hl : l.length ≤ 1048576) (n : Int) (hn : 0 ≤ n ∧ n ≤ 1048576) : ∃ K, ∀ k, K ≤ k → impl_isMatch.f k l n = some (decide (isMatchP l n)) := by
  obtain ⟨m, rfl⟩ := Int.eq_ofNat_of_zero_le hn.1
  by_cases hlen : (l.length : Int) = (m : Int)
  · have h := ev_loop (F := fun k i => impl_isMatch.l0 k (m : Int) (seenOf (l.take i) m) l (l.length : Int) (i : Int)) (n := l.length)
      (res := fun i => decide ((∀ x ∈ l.drop i, 0 ≤ x ∧ x < (m : Int)) ∧ (l.drop i).Nodup ∧ ∀ x ∈ l.drop i, x ∉ l.take i))
      (ev_suc 0 fun k _ => by
        simp only [impl_isMatch.l0]
        rw [if_neg (by omega), List.drop_length, decide_eq_true (by simp)])
      (fun i hi K hK => ev_suc K fun k hk => by
        simp only [impl_isMatch.l0]
        rw [if_pos (by omega), if_pos (by omega), if_pos (by omega), rd_nat l i hi, List.drop_eq_getElem_cons hi]
        by_cases h1 : l[i] < 0
        · rw [if_pos h1, decide_eq_false (fun h => by have := h.1 l[i] List.mem_cons_self; omega)]
        · rw [if_neg h1]
          by_cases h2 : l[i] ≥ (m : Int)
          · rw [if_pos h2, decide_eq_false (fun h => by have := h.1 l[i] List.mem_cons_self; omega)]
          · rw [if_neg h2, if_pos (by omega), if_pos (by rw [seen_length]; omega), seen_at _ _ _ (by omega) (by omega), seen_set _ _ _ (by omega) (by omega), w64s (by omega), ← List.take_succ_eq_append_getElem hi]
            by_cases h3 : l[i] ∈ l.take i
            · rw [if_pos (decide_eq_true h3), decide_eq_false (fun h => h.2.2 l[i] List.mem_cons_self h3)]
            · rw [if_neg (by simpa using h3), hK k hk]
              congr 1
              rw [decide_eq_decide, List.take_succ_eq_append_getElem hi]
              simp only [List.mem_cons, List.mem_append, List.mem_singleton, List.nodup_cons, List.not_mem_nil, or_false]
              constructor
              · rintro ⟨a1, a2, a3⟩
                refine ⟨?_, ⟨fun hm => (a3 _ hm) (.inr rfl), a2⟩, ?_⟩
                · rintro x (rfl | hx)
                  · omega
                  · exact a1 x hx
                · rintro x (rfl | hx)
                  · exact h3
                  · exact fun hm => a3 x hx (.inl hm)
              · rintro ⟨a1, ⟨a2, a3⟩, a4⟩
                refine ⟨fun x hx => a1 x (.inr hx), a3, fun x hx => ?_⟩
                rintro (hm | rfl)
                · exact a4 x (.inr hx) hm
                · exact a2 hx) 0 (Nat.zero_le _)
    obtain ⟨K, h⟩ := h
    refine ⟨K, fun k hk => ?_⟩
    have h2 := h k hk
    unfold impl_isMatch.f
    rw [if_pos hlen, if_pos (by omega), if_pos (by simp only [Int.toNat_natCast]; omega), Int.toNat_natCast]
    have e : seenOf (l.take 0) m = List.replicate m false := by
      apply List.ext_getElem <;> simp [seenOf]
    rw [e] at h2
    rw [show (0 : Int) = ((0 : Nat) : Int) from rfl, h2]
    congr 1
    rw [decide_eq_decide]
    simp [isMatchP, hlen]
  · refine ⟨0, fun k _ => ?_⟩
    unfold impl_isMatch.f
    rw [if_neg hlen, decide_eq_false (fun h => hlen h.1)]
/-- What the first trucks cost. -/
def costTo (c : List (List Int)) (m : List Int) : Nat → Int
  | 0 => 0
  | i + 1 => costTo c m i + rd (rd_L1 c (i : Int)) (rd m (i : Int))
structure Fits (c : List (List Int)) (m : List Int) : Prop where
  len : m.length = c.length
  small : c.length ≤ 7
  rows : ∀ x ∈ c, x.length = c.length ∧ ∀ z ∈ x, 0 ≤ z ∧ z ≤ 10000
  ks : ∀ x ∈ m, 0 ≤ x ∧ x < (c.length : Int)
theorem fits_at {c : List (List Int)} {m : List Int} (h : Fits c m) {i : Nat} (hi : i < m.length) : 0 ≤ rd m (i : Int) ∧ rd m (i : Int) < (c.length : Int) ∧ (rd_L1 c (i : Int)).length = c.length ∧ 0 ≤ rd (rd_L1 c (i : Int)) (rd m (i : Int)) ∧ rd (rd_L1 c (i : Int)) (rd m (i : Int)) ≤ 10000 := by
  have hic : i < c.length := by rw [← h.len]; exact hi
  rw [rd_nat m i hi, rdLL_nat c i hic]
  have h1 := h.ks m[i] (List.getElem_mem hi)
  have h2 := h.rows c[i] (List.getElem_mem hic)
  obtain ⟨j, hj⟩ := Int.eq_ofNat_of_zero_le h1.1
  have hjl : j < c[i].length := by omega
  rw [hj, rd_nat c[i] j hjl]
  have h3 := h2.2 _ (List.getElem_mem hjl)
  exact ⟨by omega, by omega, h2.1, h3.1, h3.2⟩
theorem costTo_bounds {c : List (List Int)} {m : List Int} (h : Fits c m) : ∀ i, i ≤ m.length → 0 ≤ costTo c m i ∧ costTo c m i ≤ 10000 * (i : Int) := by
  intro i
  induction i with
  | zero => intro _; simp [costTo]
  | succ i ih =>
    intro hi
    have h1 := ih (by omega)
    have h2 := fits_at h (i := i) (by omega)
    simp only [costTo]
    omega
theorem maCost_ev {c : List (List Int)} {m : List Int} (h : Fits c m) : (∃ K, ∀ k, K ≤ k → spec_maCost.f k c m = some (costTo c m m.length)) ∧ ∃ K, ∀ k, K ≤ k → impl_matchCost.f k c m = some (costTo c m m.length) := by
  have hml := h.len
  have hs := h.small
  have h1 := ev_loop (F := fun k i => spec_maCost.l0 k c (costTo c m i) m (m.length : Int) (i : Int)) (n := m.length) (res := fun _ => costTo c m m.length)
    (ev_suc 0 fun k _ => by simp only [spec_maCost.l0]; rw [if_neg (by omega)])
    (fun i hi K hK => ev_suc K fun k hk => by
      have h2 := fits_at h hi
      have h3 := costTo_bounds h i (by omega)
      simp only [spec_maCost.l0]
      rw [if_pos (by omega), if_pos (by omega), if_pos (by omega), if_pos (by omega), if_pos (by omega), if_pos (by omega), w64 (by omega) (by omega), w64s (by omega)]
      exact hK k hk) 0 (Nat.zero_le _)
  have h2 := ev_loop (F := fun k i => impl_matchCost.l0 k c (costTo c m i) m (m.length : Int) (i : Int)) (n := m.length) (res := fun _ => costTo c m m.length)
    (ev_suc 0 fun k _ => by simp only [impl_matchCost.l0]; rw [if_neg (by omega)])
    (fun i hi K hK => ev_suc K fun k hk => by
      have h2 := fits_at h hi
      have h3 := costTo_bounds h i (by omega)
      simp only [impl_matchCost.l0]
      rw [if_pos (by omega), if_pos (by omega), if_pos (by omega), if_pos (by omega), if_pos (by omega), if_pos (by omega), w64 (by omega) (by omega), w64s (by omega)]
      exact hK k hk) 0 (Nat.zero_le _)
  exact ⟨h1, h2⟩
theorem matchCost_both (c : List (List Int)) (m : List Int) (hc : c.length ≤ 1048576) (hx : ∀ x ∈ c, x.length ≤ 1048576) (hm : m.length ≤ 1048576) : ∃ r, (∃ K, ∀ k, K ≤ k → spec_MatchCost.f k c m = some r) ∧ (∃ K, ∀ k, K ≤ k → impl_MatchCost.f k c m = some r) ∧ (costsOk c = true → isMatchP m (c.length : Int) → r = (costTo c m m.length, true)) ∧ (¬ (costsOk c = true ∧ isMatchP m (c.length : Int)) → r = (0, false)) := by
  obtain ⟨K1, h1⟩ := maCosts_ev c hc hx
  obtain ⟨K2, h2⟩ := implAreCosts_ev c hc hx
  obtain ⟨K3, h3⟩ := maMatch_ev m hm (c.length : Int) (by omega)
  obtain ⟨K4, h4⟩ := implIsMatch_ev m hm (c.length : Int) (by omega)
  by_cases ho : costsOk c = true
  · have hco := (costsOk_iff c).1 ho
    by_cases hp : isMatchP m (c.length : Int)
    · have hf : Fits c m := ⟨by have := hp.1; omega, hco.2.2, hco.1, hp.2.1⟩
      obtain ⟨⟨K5, h5⟩, K6, h6⟩ := maCost_ev hf
      refine ⟨(costTo c m m.length, true), ⟨K1 + K3 + K5, fun k hk => ?_⟩, ⟨K2 + K4 + K6, fun k hk => ?_⟩, fun _ _ => rfl, fun h => absurd ⟨ho, hp⟩ h⟩
      · unfold spec_MatchCost.f
        rw [h1 k (by omega)]
        simp only [Option.bind_some]
        rw [if_pos ho, h3 k (by omega)]
        simp only [Option.bind_some]
        rw [if_pos (decide_eq_true ⟨hp, by omega, by omega⟩), h5 k (by omega)]
        rfl
      · unfold impl_MatchCost.f
        rw [h2 k (by omega)]
        simp only [Option.bind_some]
        rw [if_pos ho, h4 k (by omega)]
        simp only [Option.bind_some]
        rw [if_pos (decide_eq_true hp), h6 k (by omega)]
        rfl
    · refine ⟨(0, false), ⟨K1 + K3, fun k hk => ?_⟩, ⟨K2 + K4, fun k hk => ?_⟩, fun _ h => absurd h hp, fun _ => rfl⟩
      · unfold spec_MatchCost.f
        rw [h1 k (by omega)]
        simp only [Option.bind_some]
        rw [if_pos ho, h3 k (by omega)]
        simp only [Option.bind_some]
        rw [if_neg (by simp [hp])]
      · unfold impl_MatchCost.f
        rw [h2 k (by omega)]
        simp only [Option.bind_some]
        rw [if_pos ho, h4 k (by omega)]
        simp only [Option.bind_some]
        rw [if_neg (by simp [hp])]
  · refine ⟨(0, false), ⟨K1, fun k hk => ?_⟩, ⟨K2, fun k hk => ?_⟩, fun h => absurd h ho, fun _ => rfl⟩
    · unfold spec_MatchCost.f
      rw [h1 k hk]
      simp only [Option.bind_some]
      rw [if_neg ho]
    · unfold impl_MatchCost.f
      rw [h2 k hk]
      simp only [Option.bind_some]
      rw [if_neg ho]
/-- The trucks of the shovels, after the first trucks were looked at. -/
def swapTo (m : List Int) : Nat → List Int
  | 0 => List.replicate m.length 0
  | i + 1 => (swapTo m i).set (rd m (i : Int)).toNat (i : Int)
theorem swapTo_length (m : List Int) : ∀ i, (swapTo m i).length = m.length := by
  intro i
  induction i with
  | zero => simp [swapTo]
  | succ i ih => simp [swapTo, ih]
theorem swap_ev (m : List Int) (hl : m.length ≤ 1048576) (hp : isMatchP m (m.length : Int)) : (∃ K, ∀ k, K ≤ k → spec_maSwap.f k m = some (swapTo m m.length)) ∧ ∃ K, ∀ k, K ≤ k → impl_swapSides.f k m = some (swapTo m m.length) := by
  have hr : ∀ i, i < m.length → 0 ≤ rd m (i : Int) ∧ rd m (i : Int) < (m.length : Int) := fun i hi => by
    rw [rd_nat m i hi]
    exact hp.2.1 _ (List.getElem_mem hi)
  have h1 := ev_loop (F := fun k i => spec_maSwap.l0 k (swapTo m i) m (m.length : Int) (i : Int)) (n := m.length) (res := fun _ => swapTo m m.length)
    (ev_suc 0 fun k _ => by simp only [spec_maSwap.l0]; rw [if_neg (by omega)])
    (fun i hi K hK => ev_suc K fun k hk => by
      have h2 := hr i hi
      have h3 := swapTo_length m i
      simp only [spec_maSwap.l0]
      rw [if_pos (by omega), if_pos (by omega), if_pos (by omega), if_pos (by omega), if_pos (by omega), w64s (by omega)]
      exact hK k hk) 0 (Nat.zero_le _)
  have h2 := ev_loop (F := fun k i => impl_swapSides.l0 k (swapTo m i) m (m.length : Int) (i : Int)) (n := m.length) (res := fun _ => swapTo m m.length)
    (ev_suc 0 fun k _ => by simp only [impl_swapSides.l0]; rw [if_neg (by omega)])
    (fun i hi K hK => ev_suc K fun k hk => by
      have h2 := hr i hi
      have h3 := swapTo_length m i
      simp only [impl_swapSides.l0]
      rw [if_pos (by omega), if_pos (by omega), if_pos (by omega), if_pos (by omega), if_pos (by omega), w64s (by omega)]
      exact hK k hk) 0 (Nat.zero_le _)
  constructor
  · obtain ⟨K, h⟩ := h1
    refine ⟨K, fun k hk => ?_⟩
    unfold spec_maSwap.f
    rw [if_pos (by omega), if_pos (by omega), Int.toNat_natCast]
    exact h k hk
  · obtain ⟨K, h⟩ := h2
    refine ⟨K, fun k hk => ?_⟩
    unfold impl_swapSides.f
    rw [if_pos (by omega), if_pos (by omega), Int.toNat_natCast]
    exact h k hk
theorem swapSides_both (m : List Int) (hl : m.length ≤ 1048576) : ∃ r, (∃ K, ∀ k, K ≤ k → spec_SwapSides.f k m = some r) ∧ (∃ K, ∀ k, K ≤ k → impl_SwapSides.f k m = some r) ∧ r.1.length ≤ 7 ∧ (isMatchP m (m.length : Int) → 1 ≤ m.length → m.length ≤ 7 → r = (swapTo m m.length, true)) ∧ (¬ (isMatchP m (m.length : Int) ∧ 1 ≤ m.length ∧ m.length ≤ 7) → r = ([], false)) := by
  obtain ⟨K3, h3⟩ := maMatch_ev m hl (m.length : Int) (by omega)
  obtain ⟨K4, h4⟩ := implIsMatch_ev m hl (m.length : Int) (by omega)
  by_cases hp : isMatchP m (m.length : Int) ∧ 1 ≤ m.length ∧ m.length ≤ 7
  · obtain ⟨⟨K5, h5⟩, K6, h6⟩ := swap_ev m hl hp.1
    refine ⟨(swapTo m m.length, true), ⟨K3 + K5, fun k hk => ?_⟩, ⟨K4 + K6, fun k hk => ?_⟩, by simp only [swapTo_length]; omega, fun _ _ _ => rfl, fun h => absurd hp h⟩
    · unfold spec_SwapSides.f
      rw [h3 k (by omega)]
      simp only [Option.bind_some]
      rw [if_pos (decide_eq_true ⟨hp.1, by omega, by omega⟩), h5 k (by omega)]
      rfl
    · unfold impl_SwapSides.f
      rw [if_neg (by omega), if_neg (by omega), h4 k (by omega)]
      simp only [Option.bind_some]
      rw [if_pos (decide_eq_true hp.1), h6 k (by omega)]
      rfl
  · refine ⟨([], false), ⟨K3, fun k hk => ?_⟩, ⟨K4, fun k hk => ?_⟩, by simp, fun a b c => absurd ⟨a, b, c⟩ hp, fun _ => rfl⟩
    · unfold spec_SwapSides.f
      rw [h3 k (by omega)]
      simp only [Option.bind_some]
      rw [if_neg (by simp only [decide_eq_true_eq]; exact fun h => hp ⟨h.1, by omega, by omega⟩)]
    · unfold impl_SwapSides.f
      by_cases h1 : (m.length : Int) < 1
      · rw [if_pos h1]
      · rw [if_neg h1]
        by_cases h2 : (m.length : Int) > 7
        · rw [if_pos h2]
        · rw [if_neg h2, h4 k (by omega)]
          simp only [Option.bind_some]
          rw [if_neg (by simp only [decide_eq_true_eq]; intro h; exact hp ⟨h, by omega, by omega⟩)]
theorem l1Has_ev (l : List Int) (hl : l.length ≤ 1048576) (a : Int) : ∃ K, ∀ k, K ≤ k → spec_l1Has.f k l a = some (decide (a ∈ l)) := by
  have h := ev_loop (F := fun k i => spec_l1Has.l0 k a l (l.length : Int) (i : Int)) (n := l.length) (res := fun i => decide (a ∈ l.drop i))
    (ev_suc 0 fun k _ => by
      simp only [spec_l1Has.l0]
      rw [if_neg (by omega), List.drop_of_length_le (Nat.le_refl _)]
      rfl)
    (fun i hi K hK => ev_suc K fun k hk => by
      simp only [spec_l1Has.l0]
      rw [if_pos (by omega), if_pos (by omega), if_pos (by omega), rd_nat l i hi, List.drop_eq_getElem_cons hi]
      by_cases h1 : l[i] = a
      · rw [if_pos h1, h1]; simp
      · rw [if_neg h1, w64s (by omega), hK k hk]
        have h2 : ¬ a = l[i] := fun h => h1 h.symm
        exact congrArg some (decide_eq_decide.2 (by rw [List.mem_cons]; exact ⟨.inr, fun h => h.resolve_left h2⟩))) 0 (Nat.zero_le _)
  exact h
theorem slIndex_ev (l : List Int) (hl : l.length ≤ 1048576) (a : Int) : ∃ r : Int, (∃ K, ∀ k, K ≤ k → slices_Index_int_int.f k l a = some r) ∧ (0 ≤ r ↔ a ∈ l) ∧ r < l.length := by
  have key : ∀ d i, i + d = l.length → ∃ r : Int, (∃ K, ∀ k, K ≤ k → slices_Index_int_int.l0 k l a (l.length : Int) (i : Int) = some r) ∧ (0 ≤ r ↔ a ∈ l.drop i) ∧ (r < l.length) := by
    intro d
    induction d with
    | zero =>
      intro i hi
      refine ⟨-1, ev_suc 0 fun k _ => ?_, ?_, by omega⟩
      · simp only [slices_Index_int_int.l0]
        rw [if_neg (by omega)]
      · rw [List.drop_of_length_le (by omega)]; simp
    | succ d ih =>
      intro i hi
      have hlt : i < l.length := by omega
      by_cases h1 : a = l[i]
      · refine ⟨(i : Int), ev_suc 0 fun k _ => ?_, ?_, by omega⟩
        · simp only [slices_Index_int_int.l0]
          rw [if_pos (by omega), if_pos (by omega), if_pos (by omega), rd_nat l i hlt, if_pos h1]
        · rw [List.drop_eq_getElem_cons hlt, ← h1]
          simp
      · obtain ⟨r, ⟨K, hK⟩, h2, h3⟩ := ih (i + 1) (by omega)
        refine ⟨r, ev_suc K fun k hk => ?_, ?_, h3⟩
        · simp only [slices_Index_int_int.l0]
          rw [if_pos (by omega), if_pos (by omega), if_pos (by omega), rd_nat l i hlt, if_neg h1, w64s (by omega)]
          exact hK k hk
        · rw [h2, List.drop_eq_getElem_cons hlt, List.mem_cons]
          simp [h1]
  obtain ⟨r, h1, h2, h3⟩ := key l.length 0 (by omega)
  exact ⟨r, h1, by simpa using h2, h3⟩
theorem slContains_ev (l : List Int) (hl : l.length ≤ 1048576) (a : Int) : ∃ K, ∀ k, K ≤ k → slices_Contains_int_int.f k l a = some (decide (a ∈ l)) := by
  obtain ⟨r, ⟨K, h1⟩, h2, h3⟩ := slIndex_ev l hl a
  refine ⟨K, fun k hk => ?_⟩
  unfold slices_Contains_int_int.f
  rw [h1 k hk]
  simp only [Option.bind_some]
  congr 1
  exact decide_eq_decide.2 (by rw [← h2])
theorem swapTo_mem (m : List Int) : ∀ i, i ≤ m.length → ∀ z ∈ swapTo m i, 0 ≤ z ∧ z < (m.length : Int) := by
  intro i
  induction i with
  | zero =>
    intro _ z hz
    simp only [swapTo, List.mem_replicate] at hz
    omega
  | succ i ih =>
    intro hi z hz
    simp only [swapTo] at hz
    rcases List.mem_or_eq_of_mem_set hz with h | rfl
    · exact ih (by omega) z h
    · omega
/-- All matches that begin with a list, in lexicographic order. -/
def allFrom (n : Nat) : Nat → List Int → List (List Int)
  | 0, p => [p]
  | d + 1, p => (List.range n).flatMap fun (j : Nat) => if (j : Int) ∈ p then [] else allFrom n d (p ++ [(j : Int)])
theorem flatMap_le {α β : Type} (g : α → List β) (B : Nat) : ∀ l : List α, (∀ x ∈ l, (g x).length ≤ B) → (l.flatMap g).length ≤ l.length * B := by
  intro l
  induction l with
  | nil => intro _; simp
  | cons x l ih =>
    intro h
    have h1 := h x (List.mem_cons_self)
    have h2 := ih (fun y hy => h y (List.mem_cons_of_mem _ hy))
    rw [List.flatMap_cons, List.length_append, List.length_cons, Nat.add_mul, Nat.one_mul]
    omega
theorem allFrom_len (n : Nat) (hn : n ≤ 7) : ∀ d p, (allFrom n d p).length ≤ 7 ^ d := by
  intro d
  induction d with
  | zero => intro p; simp [allFrom]
  | succ d ih =>
    intro p
    have h := flatMap_le (fun (j : Nat) => if (j : Int) ∈ p then [] else allFrom n d (p ++ [(j : Int)])) (7 ^ d) (List.range n) (fun j _ => by
      by_cases g : (j : Int) ∈ p
      · rw [if_pos g]; simp
      · rw [if_neg g]; exact ih _)
    rw [List.length_range] at h
    simp only [allFrom]
    rw [Nat.pow_succ, Nat.mul_comm]
    exact Nat.le_trans h (Nat.mul_le_mul_right _ hn)
structure Part (n : Nat) (p : List Int) : Prop where
  nd : p.Nodup
  lt : ∀ x ∈ p, 0 ≤ x ∧ x < (n : Int)
theorem Part.snoc {n : Nat} {p : List Int} (h : Part n p) {j : Nat} (hj : j < n) (hp : ¬ (j : Int) ∈ p) : Part n (p ++ [(j : Int)]) := by
  refine ⟨?_, fun x hx => ?_⟩
  · rw [List.nodup_append]
    refine ⟨h.nd, by simp, fun a ha b hb => ?_⟩
    rw [List.mem_singleton] at hb
    subst hb
    exact fun e => hp (e ▸ ha)
  · rcases List.mem_append.1 hx with hx | hx
    · exact h.lt x hx
    · rw [List.mem_singleton] at hx
      omega
theorem allFrom_mem (n : Nat) : ∀ d p, p.length + d = n → Part n p → ∀ m ∈ allFrom n d p, m.length = n ∧ Part n m := by
  intro d
  induction d with
  | zero =>
    intro p hp h m hm
    simp only [allFrom, List.mem_singleton] at hm
    subst hm
    exact ⟨by omega, h⟩
  | succ d ih =>
    intro p hp h m hm
    simp only [allFrom] at hm
    obtain ⟨j, hj, hm⟩ := List.mem_flatMap.1 hm
    by_cases g : (j : Int) ∈ p
    · rw [if_pos g] at hm; cases hm
    · rw [if_neg g] at hm
      exact ih _ (by rw [List.length_append, List.length_singleton]; omega) (h.snoc (List.mem_range.1 hj) g) m hm
theorem allFrom_all (n : Nat) : ∀ d p m, p.length + d = n → m.length = n → Part n m → m.take p.length = p → m ∈ allFrom n d p := by
  intro d
  induction d with
  | zero =>
    intro p m hp hl h ht
    rw [List.take_of_length_le (by omega)] at ht
    simp only [allFrom, List.mem_singleton]
    exact ht
  | succ d ih =>
    intro p m hp hl h ht
    have hlt : p.length < m.length := by omega
    have hx := h.lt m[p.length] (List.getElem_mem hlt)
    obtain ⟨j, hj⟩ := Int.eq_ofNat_of_zero_le hx.1
    simp only [allFrom]
    refine List.mem_flatMap.2 ⟨j, List.mem_range.2 (by omega), ?_⟩
    have htk : m.take (p.length + 1) = p ++ [(j : Int)] := by rw [List.take_succ_eq_append_getElem hlt, ht, ← hj]
    have hnp : ¬ (j : Int) ∈ p := by
      intro hm
      have h1 : (p ++ [(j : Int)]).Nodup := by rw [← htk]; exact (List.take_sublist _ _).nodup h.nd
      rw [List.nodup_append] at h1
      exact h1.2.2 _ hm _ (by simp) rfl
    rw [if_neg hnp]
    exact ih _ _ (by rw [List.length_append, List.length_singleton]; omega) hl h (by rw [List.length_append, List.length_singleton]; exact htk)
theorem nodup_len : ∀ (l p : List Int), l.Nodup → (∀ x ∈ l, x ∈ p) → l.length ≤ p.length := by
  intro l
  induction l with
  | nil => intro p _ _; simp
  | cons x l ih =>
    intro p h1 h2
    rw [List.nodup_cons] at h1
    have hx := h2 x (List.mem_cons_self)
    have h3 := ih (p.erase x) h1.2 (fun y hy => (List.mem_erase_of_ne (fun e : y = x => h1.1 (by rw [← e]; exact hy))).2 (h2 y (List.mem_cons_of_mem _ hy)))
    rw [List.length_erase_of_mem hx] at h3
    have := List.length_pos_of_mem hx
    rw [List.length_cons]
    omega
theorem part_more {n : Nat} {p : List Int} (h : Part n p) (hp : p.length < n) : ∃ j, j < n ∧ ¬ (j : Int) ∈ p := by
  apply Classical.byContradiction
  intro hn
  have hall : ∀ j, j < n → (j : Int) ∈ p := fun j hj => Classical.byContradiction fun g => hn ⟨j, hj, g⟩
  have hsub : ∀ x ∈ (List.range n).map (fun (j : Nat) => (j : Int)), x ∈ p := by
    intro x hx
    obtain ⟨j, hj, rfl⟩ := List.mem_map.1 hx
    exact hall j (List.mem_range.1 hj)
  have hnd : ((List.range n).map (fun (j : Nat) => (j : Int))).Nodup := by
    rw [List.nodup_iff_pairwise_ne, List.pairwise_map]
    exact List.Pairwise.imp (fun h e => h (by omega)) (List.nodup_iff_pairwise_ne.1 List.nodup_range)
  have hle := nodup_len _ _ hnd hsub
  simp at hle
  omega
theorem allFrom_some (n : Nat) : ∀ d p, p.length + d = n → Part n p → allFrom n d p ≠ [] := by
  intro d
  induction d with
  | zero => intro p _ _; simp [allFrom]
  | succ d ih =>
    intro p hp h
    obtain ⟨j, hj, hjp⟩ := part_more h (by omega)
    have h1 := ih (p ++ [(j : Int)]) (by rw [List.length_append, List.length_singleton]; omega) (h.snoc hj hjp)
    intro hn
    obtain ⟨m, hm⟩ := List.exists_mem_of_ne_nil _ h1
    have : m ∈ allFrom n (d + 1) p := by
      simp only [allFrom]
      exact List.mem_flatMap.2 ⟨j, List.mem_range.2 hj, by rw [if_neg hjp]; exact hm⟩
    rw [hn] at this
    cases this
theorem l1Own_eq (l : List Int) (hl : l.length ≤ 1048576) : spec_l1Own.f l = some l := by
  unfold spec_l1Own.f
  simp only [Option.bind_some, List.length_nil, List.nil_append]
  rw [if_pos (by omega)]
theorem maAll_ev (n : Nat) (hn : n ≤ 7) : ∀ d p, p.length + d = n → ∃ K, ∀ k, K ≤ k → spec_maAll.f k p (n : Int) = some (allFrom n d p) := by
  intro d
  induction d with
  | zero =>
    intro p hp
    refine ev_suc 0 fun k _ => ?_
    simp only [spec_maAll.f]
    rw [if_pos (by omega), l1Own_eq p (by omega)]
    rfl
  | succ d ih =>
    intro p hp
    have hp7 : 7 ^ d ≤ 823543 := Nat.le_trans (Nat.pow_le_pow_right (by omega) (show d ≤ 7 by omega)) (by decide)
    have hlen : ∀ i, i ≤ n → (((List.range n).take i).flatMap fun (j : Nat) => if (j : Int) ∈ p then [] else allFrom n d (p ++ [(j : Int)])).length ≤ 10000000 := by
      intro i hi
      have h := flatMap_le (fun (j : Nat) => if (j : Int) ∈ p then [] else allFrom n d (p ++ [(j : Int)])) 823543 ((List.range n).take i) (fun j _ => by
        by_cases g : (j : Int) ∈ p
        · rw [if_pos g]; simp
        · rw [if_neg g]; exact Nat.le_trans (allFrom_len n hn d _) hp7)
      rw [List.length_take, List.length_range] at h
      have := Nat.mul_le_mul_right 823543 (show min i n ≤ 7 by omega)
      omega
    have h := ev_loop (F := fun k i => spec_maAll.l0 k p (n : Int) (((List.range n).take i).flatMap fun (j : Nat) => if (j : Int) ∈ p then [] else allFrom n d (p ++ [(j : Int)])) (i : Int)) (n := n) (res := fun _ => allFrom n (d + 1) p)
      (ev_suc 0 fun k _ => by
        simp only [spec_maAll.l0]
        rw [if_neg (by omega), List.take_of_length_le (by simp)]
        rfl)
      (fun i hi K hK => by
        obtain ⟨K1, h1⟩ := l1Has_ev p (by omega) (i : Int)
        have htk : (List.range n).take (i + 1) = (List.range n).take i ++ [i] := by rw [List.take_succ_eq_append_getElem (by simpa using hi)]; simp
        rw [htk, List.flatMap_append, List.flatMap_cons, List.flatMap_nil, List.append_nil] at hK
        by_cases g : (i : Int) ∈ p
        · rw [if_pos g, List.append_nil] at hK
          refine ev_suc (K + K1) fun k hk => ?_
          simp only [spec_maAll.l0]
          rw [if_pos (by omega), h1 k (by omega)]
          simp only [Option.bind_some]
          rw [if_pos (decide_eq_true g), w64s (by omega)]
          exact hK k (by omega)
        · rw [if_neg g] at hK
          obtain ⟨K2, h2⟩ := ih (p ++ [(i : Int)]) (by rw [List.length_append, List.length_singleton]; omega)
          have l1 := hlen i (by omega)
          have l2 := Nat.le_trans (allFrom_len n hn d (p ++ [(i : Int)])) hp7
          refine ev_suc (K + K1 + K2) fun k hk => ?_
          simp only [spec_maAll.l0]
          rw [if_pos (by omega), h1 k (by omega)]
          simp only [Option.bind_some]
          rw [if_neg (by simpa using g), l1Own_eq p (by omega)]
          simp only [Option.bind_some]
          rw [if_pos (by omega), h2 k (by omega)]
          simp only [Option.bind_some]
          rw [if_pos (by omega), w64s (by omega)]
          exact hK k (by omega)) 0 (Nat.zero_le _)
    obtain ⟨K, h⟩ := h
    refine ev_suc K fun k hk => ?_
    simp only [spec_maAll.f]
    rw [if_neg (by omega)]
    have := h k hk
    simpa using this
def foldO {σ α : Type} (step : σ → α → Option σ) : σ → List α → Option σ
  | s, [] => some s
  | s, a :: l => (step s a).bind fun s' => foldO step s' l
theorem foldO_append {σ α : Type} (step : σ → α → Option σ) : ∀ (l l2 : List α) (s : σ), foldO step s (l ++ l2) = (foldO step s l).bind fun s' => foldO step s' l2 := by
  intro l
  induction l with
  | nil => intro l2 s; rfl
  | cons a l ih =>
    intro l2 s
    simp only [List.cons_append, foldO]
    cases step s a with
    | none => rfl
    | some s1 => exact ih l2 s1
/-- The filling calls the function for all matches, in their order. -/
theorem fill_all {σ : Type} (step : σ → List Int → Option σ) (n : Nat) : ∀ (d : Nat) (M : List Int) (U : List Bool) (p : List Int), M.length = n → U.length = n → p.length + d = n → M.take p.length = p → (∀ j, j < n → U.getD j false = decide ((j : Int) ∈ p)) →
    ∃ M' : List Int, M'.length = n ∧ M'.take p.length = p ∧ ∀ s, fillF step n d M U s = (foldO step s (allFrom n d p)).bind fun s' => some (M', U, s') := by
  intro d
  induction d with
  | zero =>
    intro M U p hM hU hp ht hu
    have hMp : M = p := by rw [← ht, List.take_of_length_le (by omega)]
    refine ⟨M, hM, ht, fun s => ?_⟩
    simp only [fillF, allFrom, foldO]
    rw [hMp]
    cases step s p <;> rfl
  | succ d ih =>
    intro M U p hM hU hp ht hu
    have key : ∀ e, e ≤ n → ∀ M1 : List Int, M1.length = n → M1.take p.length = p → ∃ M' : List Int, M'.length = n ∧ M'.take p.length = p ∧ ∀ s, fillK (fillF step n d) p.length n e M1 U s = (foldO step s (((List.range n).drop (n - e)).flatMap fun (j : Nat) => if (j : Int) ∈ p then [] else allFrom n d (p ++ [(j : Int)]))).bind fun s' => some (M', U, s') := by
      intro e
      induction e with
      | zero =>
        intro _ M1 h1 h2
        refine ⟨M1, h1, h2, fun s => ?_⟩
        rw [List.drop_of_length_le (by simp)]
        rfl
      | succ e ihe =>
        intro he M1 h1 h2
        have hlt : n - (e + 1) < (List.range n).length := by simp; omega
        rw [List.drop_eq_getElem_cons hlt, List.flatMap_cons, List.getElem_range, show n - (e + 1) + 1 = n - e from by omega]
        obtain ⟨kk, hkk⟩ : ∃ kk, kk = n - (e + 1) := ⟨_, rfl⟩
        have hu1 := hu kk (by omega)
        simp only [fillK]
        rw [← hkk]
        by_cases g : (kk : Int) ∈ p
        · rw [if_pos g, List.nil_append]
          have e1 : U.getD kk false = true := by rw [hu1]; exact decide_eq_true g
          simp only [e1, if_true]
          exact ihe (by omega) M1 h1 h2
        · rw [if_neg g]
          have e1 : U.getD kk false = false := by rw [hu1]; exact decide_eq_false g
          simp only [e1, Bool.false_eq_true, if_false]
          have hset : (M1.set p.length (kk : Int)).take (p ++ [(kk : Int)]).length = p ++ [(kk : Int)] := by
            rw [List.length_append, List.length_singleton, List.take_succ_eq_append_getElem (by rw [List.length_set]; omega), List.getElem_set_self, List.take_set_of_le (Nat.le_refl _), h2]
          obtain ⟨M2, m1, m2, m3⟩ := ih (M1.set p.length (kk : Int)) (U.set kk true) (p ++ [(kk : Int)]) (by rw [List.length_set]; exact h1) (by rw [List.length_set]; exact hU) (by rw [List.length_append, List.length_singleton]; omega) hset (fun j hj => by
            rw [List.getD_eq_getElem?_getD, List.getElem?_set]
            by_cases e1 : kk = j
            · subst e1
              rw [if_pos rfl, if_pos (by omega)]
              simp
            · rw [if_neg e1, ← List.getD_eq_getElem?_getD, hu j hj]
              refine decide_eq_decide.2 ?_
              rw [List.mem_append, List.mem_singleton]
              exact ⟨.inl, fun h => h.resolve_right (by omega)⟩)
          have m2' : M2.take p.length = p := by
            have h5 := congrArg (List.take p.length) m2
            rw [List.take_take, List.length_append, List.length_singleton, Nat.min_eq_left (by omega)] at h5
            rw [h5]
            simp
          have hback : (U.set kk true).set kk false = U := by
            rw [List.set_set]
            apply List.ext_getElem?
            intro i
            rw [List.getElem?_set]
            by_cases e2 : kk = i
            · subst e2
              have hkU : kk < U.length := by omega
              have h6 := e1
              rw [List.getD_eq_getElem?_getD, List.getElem?_eq_getElem hkU] at h6
              rw [if_pos rfl, if_pos hkU, List.getElem?_eq_getElem hkU]
              exact congrArg some h6.symm
            · rw [if_neg e2]
          obtain ⟨M3, n1, n2, n3⟩ := ihe (by omega) M2 m1 m2'
          refine ⟨M3, n1, n2, fun s => ?_⟩
          rw [m3 s, foldO_append]
          cases foldO step s (allFrom n d (p ++ [(kk : Int)])) with
          | none => rfl
          | some s1 =>
            simp only [Option.bind_some]
            rw [hback]
            exact n3 s1
    obtain ⟨M', h1, h2, h3⟩ := key n (Nat.le_refl _) M hM ht
    refine ⟨M', h1, h2, fun s => ?_⟩
    have h4 := h3 s
    rw [Nat.sub_self, List.drop_zero] at h4
    simp only [fillF, allFrom]
    rw [show n - (d + 1) = p.length from by omega]
    exact h4
theorem fill_start {σ : Type} (step : σ → List Int → Option σ) (n : Nat) (s : σ) : ∃ M' : List Int, fillF step n n (List.replicate n 0) (List.replicate n false) s = (foldO step s (allFrom n n [])).bind fun s' => some (M', List.replicate n false, s') := by
  obtain ⟨M', _, _, h⟩ := fill_all step n n (List.replicate n 0) (List.replicate n false) [] (by simp) (by simp) (by simp) (by simp) (fun j hj => by simp [List.getD_eq_getElem?_getD, List.getElem?_replicate, hj])
  exact ⟨M', h s⟩
/-- A fold whose steps come to their answers comes to its own. -/
theorem foldO_ev {σ α : Type} (step : Nat → σ → α → Option σ) (tt : σ → α → σ) (ok : σ → Prop) : ∀ (l : List α), (∀ a ∈ l, ∀ s, ok s → ok (tt s a) ∧ ∃ K, ∀ k, K ≤ k → step k s a = some (tt s a)) → ∀ s, ok s → ok (l.foldl tt s) ∧ ∃ K, ∀ k, K ≤ k → foldO (step k) s l = some (l.foldl tt s) := by
  intro l
  induction l with
  | nil => intro _ s hs; exact ⟨hs, 0, fun k _ => rfl⟩
  | cons a l ih =>
    intro h s hs
    obtain ⟨h1, K1, h2⟩ := h a (List.mem_cons_self) s hs
    obtain ⟨h3, K2, h4⟩ := ih (fun b hb => h b (List.mem_cons_of_mem _ hb)) (tt s a) h1
    refine ⟨h3, K1 + K2, fun k hk => ?_⟩
    simp only [foldO, List.foldl_cons]
    rw [h2 k (by omega)]
    exact h4 k (by omega)
theorem fits_of {c : List (List Int)} (hc : costsOk c = true) {m : List Int} (hl : m.length = c.length) (hp : Part c.length m) : Fits c m := by
  obtain ⟨q1, q2, q3⟩ := (costsOk_iff c).1 hc
  exact ⟨hl, q3, q1, hp.lt⟩
/-- The cheaper one, the first of two alike. -/
def better (c : List (List Int)) (b m : List Int) : List Int := if b.length = 0 then m else if costTo c m m.length < costTo c b b.length then m else b
theorem cheapest_both {c : List (List Int)} (hc : costsOk c = true) : ∃ g : List Int, (∃ K, ∀ k, K ≤ k → spec_maCheapest.f k c = some g) ∧ (∃ K, ∀ k, K ≤ k → impl_cheapestMatch.f k c = some (g, costTo c g g.length)) ∧ g.length = c.length ∧ Part c.length g ∧ ∀ m, m.length = c.length → Part c.length m → costTo c g g.length ≤ costTo c m m.length := by
  obtain ⟨q1, q2, q3⟩ := (costsOk_iff c).1 hc
  have hP0 : Part c.length [] := ⟨by simp, fun x hx => by cases hx⟩
  obtain ⟨all, hall⟩ : ∃ all, all = allFrom c.length c.length [] := ⟨_, rfl⟩
  have hmem : ∀ m ∈ all, m.length = c.length ∧ Part c.length m := by rw [hall]; exact allFrom_mem c.length c.length [] (by simp) hP0
  have hne : all ≠ [] := by rw [hall]; exact allFrom_some c.length c.length [] (by simp) hP0
  have hlenAll : all.length ≤ 823543 := by rw [hall]; exact Nat.le_trans (allFrom_len c.length q3 c.length []) (Nat.le_trans (Nat.pow_le_pow_right (by omega) q3) (by decide))
  obtain ⟨Ka, ha⟩ := maAll_ev c.length q3 c.length [] (by simp)
  rw [← hall] at ha
  have hfit : ∀ m ∈ all, Fits c m := fun m hm => fits_of hc (hmem m hm).1 (hmem m hm).2
  -- the fold of the reference
  have hgood : ∀ (l : List (List Int)), (∀ m ∈ l, m ∈ all) → ∀ b, (b = [] ∨ b ∈ all) → (l.foldl (better c) b = [] ∧ l = [] ∨ l.foldl (better c) b = b ∨ l.foldl (better c) b ∈ all) ∧ (l.foldl (better c) b = [] → b = [] ∧ l = []) ∧ (b ∈ all → costTo c (l.foldl (better c) b) (l.foldl (better c) b).length ≤ costTo c b b.length) ∧ ∀ m ∈ l, costTo c (l.foldl (better c) b) (l.foldl (better c) b).length ≤ costTo c m m.length := by
    intro l
    induction l with
    | nil => intro _ b hb; exact ⟨.inr (.inl rfl), fun h => ⟨h, rfl⟩, fun _ => Int.le_refl _, fun m hm => by cases hm⟩
    | cons m l ih =>
      intro hl b hb
      have hm := hl m (List.mem_cons_self)
      have hmlen : m.length ≠ 0 := by have := (hmem m hm).1; omega
      have hbm : better c b m ∈ all := by
        unfold better
        split
        · exact hm
        · split
          · exact hm
          · rcases hb with rfl | hb
            · simp at *
            · exact hb
      have hle1 : b ∈ all → costTo c (better c b m) (better c b m).length ≤ costTo c b b.length := fun hba => by
        unfold better
        rw [if_neg (by have := (hmem b hba).1; omega)]
        split <;> omega
      have hle2 : costTo c (better c b m) (better c b m).length ≤ costTo c m m.length := by
        unfold better
        split
        · exact Int.le_refl _
        · split <;> omega
      obtain ⟨i1, i2, i3, i4⟩ := ih (fun x hx => hl x (List.mem_cons_of_mem _ hx)) (better c b m) (.inr hbm)
      have i3' := i3 hbm
      rw [List.foldl_cons]
      refine ⟨.inr (.inr ?_), fun h => ?_, fun hba => Int.le_trans i3' (hle1 hba), fun x hx => ?_⟩
      · rcases i1 with ⟨h, _⟩ | h | h
        · have := (i2 h).1
          rw [this] at hbm
          have := (hmem [] hbm).1
          simp at this; omega
        · rw [h]; exact hbm
        · exact h
      · have := (i2 h).1
        rw [this] at hbm
        have := (hmem [] hbm).1
        simp at this; omega
      · rcases List.mem_cons.1 hx with rfl | hx
        · exact Int.le_trans i3' hle2
        · exact i4 x hx
  obtain ⟨g, hg⟩ : ∃ g, g = all.foldl (better c) [] := ⟨_, rfl⟩
  obtain ⟨i1, i2, i3, i4⟩ := hgood all (fun m hm => hm) [] (.inl rfl)
  rw [← hg] at i1 i2 i3 i4
  have hgne : g ≠ [] := fun h => hne (i2 h).2
  have hgall : g ∈ all := by
    rcases i1 with ⟨h, _⟩ | h | h
    · exact absurd h hgne
    · exact absurd h hgne
    · exact h
  have hgm := hmem g hgall
  refine ⟨g, ?_, ?_, hgm.1, hgm.2, fun m h1 h2 => i4 m (by rw [hall]; exact allFrom_all c.length c.length [] m (by simp) h1 h2 (by simp))⟩
  · have h := ev_loop (F := fun k i => spec_maCheapest.l0 k c ((all.take i).foldl (better c) []) all (all.length : Int) (i : Int)) (n := all.length) (res := fun _ => g)
      (ev_suc 0 fun k _ => by simp only [spec_maCheapest.l0]; rw [if_neg (by omega), List.take_of_length_le (Nat.le_refl _), hg])
      (fun i hi K hK => by
        have hm : all[i] ∈ all := List.getElem_mem hi
        have hstep : (all.take (i + 1)).foldl (better c) [] = better c ((all.take i).foldl (better c) []) all[i] := by rw [List.take_succ_eq_append_getElem hi, List.foldl_append]; rfl
        rw [hstep] at hK
        obtain ⟨b, hb⟩ : ∃ b, b = (all.take i).foldl (better c) [] := ⟨_, rfl⟩
        rw [← hb] at hK ⊢
        have hbb : b = [] ∨ b ∈ all := by
          obtain ⟨j1, _⟩ := hgood (all.take i) (fun m hm => List.mem_of_mem_take hm) [] (.inl rfl)
          rw [← hb] at j1
          rcases j1 with ⟨h, _⟩ | h | h
          · exact .inl h
          · exact .inl h
          · exact .inr h
        by_cases g0 : b.length = 0
        · have : better c b all[i] = all[i] := by unfold better; rw [if_pos g0]
          rw [this] at hK
          refine ev_suc K fun k hk => ?_
          simp only [spec_maCheapest.l0]
          rw [if_pos (by omega), if_pos (by omega), if_pos (by omega), if_pos (by omega), rdLL_nat all i hi, w64s (by omega)]
          exact hK k hk
        · have hba : b ∈ all := hbb.resolve_left (fun e => g0 (by rw [e]; rfl))
          obtain ⟨⟨K1, h1⟩, _⟩ := maCost_ev (hfit _ hm)
          obtain ⟨⟨K2, h2⟩, _⟩ := maCost_ev (hfit _ hba)
          refine ev_suc (K + K1 + K2) fun k hk => ?_
          simp only [spec_maCheapest.l0]
          rw [if_pos (by omega), if_pos (by omega), if_pos (by omega), if_neg (by omega), rdLL_nat all i hi, h1 k (by omega)]
          simp only [Option.bind_some]
          rw [h2 k (by omega)]
          simp only [Option.bind_some]
          rw [w64s (by omega)]
          by_cases g1 : costTo c all[i] all[i].length < costTo c b b.length
          · have : better c b all[i] = all[i] := by unfold better; rw [if_neg g0, if_pos g1]
            rw [this] at hK
            rw [if_pos g1]
            exact hK k (by omega)
          · have : better c b all[i] = b := by unfold better; rw [if_neg g0, if_neg g1]
            rw [this] at hK
            rw [if_neg g1]
            exact hK k (by omega)) 0 (Nat.zero_le _)
    obtain ⟨K, h⟩ := h
    refine ⟨Ka + K, fun k hk => ?_⟩
    unfold spec_maCheapest.f
    rw [ha k (by omega)]
    simp only [Option.bind_some]
    have := h k (by omega)
    simpa using this
  · have hf := foldO_ev (fun k => impl_cheapestMatch.step k c) (fun s m => if s.2 < 0 then (m, costTo c m m.length) else if costTo c m m.length < s.2 then (m, costTo c m m.length) else s) (fun s => (s.1 = [] ∧ s.2 = -1) ∨ (s.1 ∈ all ∧ s.2 = costTo c s.1 s.1.length)) all (fun m hm s hs => by
      obtain ⟨_, K1, h1⟩ := maCost_ev (hfit m hm)
      refine ⟨?_, K1, fun k hk => ?_⟩
      · by_cases g0 : s.2 < 0
        · rw [if_pos g0]; exact .inr ⟨hm, rfl⟩
        · rw [if_neg g0]
          by_cases g1 : costTo c m m.length < s.2
          · rw [if_pos g1]; exact .inr ⟨hm, rfl⟩
          · rw [if_neg g1]; exact hs
      · unfold impl_cheapestMatch.step
        rw [h1 k hk]
        rfl) ([], -1) (.inl ⟨rfl, rfl⟩)
    obtain ⟨_, K, hK⟩ := hf
    -- both folds go side by side
    have hside : ∀ (l : List (List Int)), (∀ m ∈ l, m ∈ all) → ∀ (b : List Int) (s : List Int × Int), ((b = [] ∧ s = ([], -1)) ∨ (b ∈ all ∧ s = (b, costTo c b b.length))) → ((l.foldl (better c) b = [] ∧ l.foldl (fun s m => if s.2 < 0 then (m, costTo c m m.length) else if costTo c m m.length < s.2 then (m, costTo c m m.length) else s) s = ([], -1)) ∨ (l.foldl (better c) b ∈ all ∧ l.foldl (fun s m => if s.2 < 0 then (m, costTo c m m.length) else if costTo c m m.length < s.2 then (m, costTo c m m.length) else s) s = (l.foldl (better c) b, costTo c (l.foldl (better c) b) (l.foldl (better c) b).length))) := by
      intro l
      induction l with
      | nil => intro _ b s h; exact h
      | cons m l ih =>
        intro hl b s h
        have hm := hl m (List.mem_cons_self)
        rw [List.foldl_cons, List.foldl_cons]
        refine ih (fun x hx => hl x (List.mem_cons_of_mem _ hx)) _ _ (.inr ?_)
        rcases h with ⟨rfl, rfl⟩ | ⟨hb, rfl⟩
        · have e : better c [] m = m := by unfold better; exact if_pos rfl
          rw [e]
          exact ⟨hm, by simp⟩
        · have hp := (costTo_bounds (hfit b hb) b.length (Nat.le_refl _)).1
          have hbl : ¬ b.length = 0 := by have := (hmem b hb).1; omega
          simp only [better, if_neg hbl, if_neg (show ¬ costTo c b b.length < 0 by omega)]
          by_cases g1 : costTo c m m.length < costTo c b b.length
          · simp only [if_pos g1]; exact ⟨hm, trivial⟩
          · simp only [if_neg g1]; exact ⟨hb, trivial⟩
    have hs := hside all (fun m hm => hm) [] ([], -1) (.inl ⟨rfl, rfl⟩)
    rw [← hg] at hs
    have hs2 := hs.resolve_left (fun h => hgne h.1)
    refine ⟨K, fun k hk => ?_⟩
    unfold impl_cheapestMatch.f
    rw [if_pos (by omega)]
    obtain ⟨M', h⟩ := fill_start (impl_cheapestMatch.step k c) c.length ([], -1)
    rw [h, ← hall, hK k hk, hs2.2]
    rfl
theorem cheapestMatch_both (c : List (List Int)) (hl : c.length ≤ 1048576) (hx : ∀ x ∈ c, x.length ≤ 1048576) : ∃ (g : List Int) (x : Int) (b : Bool), (∃ K, ∀ k, K ≤ k → spec_CheapestMatch.f k c = some (g, x, b)) ∧ (∃ K, ∀ k, K ≤ k → impl_CheapestMatch.f k c = some (g, x, b)) ∧ g.length ≤ 7 ∧ b = costsOk c ∧ (costsOk c = true → g.length = c.length ∧ Part c.length g ∧ x = costTo c g g.length ∧ ∀ m, m.length = c.length → Part c.length m → x ≤ costTo c m m.length) := by
  obtain ⟨K2, h2⟩ := maCosts_ev c hl hx
  obtain ⟨K3, h3⟩ := implAreCosts_ev c hl hx
  by_cases hc : costsOk c = true
  · obtain ⟨q1, q2, q3⟩ := (costsOk_iff c).1 hc
    obtain ⟨g, ⟨K4, h4⟩, ⟨K5, h5⟩, h6, h7, h8⟩ := cheapest_both hc
    obtain ⟨⟨K6, h9⟩, _⟩ := maCost_ev (fits_of hc h6 h7)
    refine ⟨g, costTo c g g.length, true, ⟨K2 + K4 + K6, fun k hk => ?_⟩, ⟨K3 + K5, fun k hk => ?_⟩, by omega, hc.symm, fun _ => ⟨h6, h7, rfl, h8⟩⟩
    · unfold spec_CheapestMatch.f
      rw [h2 k (by omega)]
      simp only [Option.bind_some]
      rw [if_pos hc, h4 k (by omega)]
      simp only [Option.bind_some]
      rw [h9 k (by omega)]
      rfl
    · unfold impl_CheapestMatch.f
      rw [h3 k (by omega)]
      simp only [Option.bind_some]
      rw [if_pos hc, h5 k (by omega)]
      rfl
  · refine ⟨[], 0, false, ⟨K2, fun k hk => ?_⟩, ⟨K3, fun k hk => ?_⟩, by simp, (Bool.eq_false_iff.mpr hc).symm, fun h => absurd h hc⟩
    · unfold spec_CheapestMatch.f
      rw [h2 k (by omega)]
      simp only [Option.bind_some]
      rw [if_neg hc]
    · unfold impl_CheapestMatch.f
      rw [h3 k (by omega)]
      simp only [Option.bind_some]
      rw [if_neg hc]
theorem firstCome_part (l : List (List Int)) (hl : l.length ≤ 1048576) (hx : ∀ x ∈ l, x.length = l.length) : ∃ g : List Int, (∃ K, ∀ k, K ≤ k → spec_maFirst.f k l = some g) ∧ (∃ K, ∀ k, K ≤ k → impl_firstComeMatch.f k l = some g) ∧ g.length = l.length ∧ Part l.length g := by
  have key : ∀ d i, i + d = l.length → ∀ out : List Int, out.length = i → Part l.length out → ∃ g : List Int, (∃ K, ∀ k, K ≤ k → spec_maFirst.l0 k out l (l.length : Int) (i : Int) = some g) ∧ (∃ K, ∀ k, K ≤ k → impl_firstComeMatch.l0 k out l (l.length : Int) (i : Int) = some g) ∧ g.length = l.length ∧ Part l.length g := by
    intro d
    induction d with
    | zero =>
      intro i hi out ho hP
      refine ⟨out, ev_suc 0 fun k _ => ?_, ev_suc 0 fun k _ => ?_, by omega, hP⟩
      · simp only [spec_maFirst.l0]; rw [if_neg (by omega)]
      · simp only [impl_firstComeMatch.l0]; rw [if_neg (by omega)]
    | succ d ih =>
      intro i hi out ho hP
      have hlt : i < l.length := by omega
      have hlen : l[i].length = l.length := hx _ (List.getElem_mem hlt)
      have inner : ∀ e j, j + e = l.length → ∀ best : Int, best < l.length → ((best < 0 ∧ ∀ z, z < j → (z : Int) ∈ out) ∨ (0 ≤ best ∧ ¬ best ∈ out)) → ∃ g : List Int, (∃ K, ∀ k, K ≤ k → spec_maFirst.l1 k out l[i] best l (l.length : Int) (i : Int) l[i] (l[i].length : Int) (j : Int) = some g) ∧ (∃ K, ∀ k, K ≤ k → impl_firstComeMatch.l1 k out l[i] best l (l.length : Int) (i : Int) l[i] (l[i].length : Int) (j : Int) = some g) ∧ g.length = l.length ∧ Part l.length g := by
        intro e
        induction e with
        | zero =>
          intro j hj best hb hq
          have hq2 : 0 ≤ best ∧ ¬ best ∈ out := by
            rcases hq with ⟨_, hq⟩ | hq
            · obtain ⟨z, z1, z2⟩ := part_more hP (by omega)
              exact absurd (hq z (by omega)) z2
            · exact hq
          obtain ⟨b, hbn⟩ := Int.eq_ofNat_of_zero_le hq2.1
          have hP2 : Part l.length (out ++ [best]) := by rw [hbn] at hq2 hb ⊢; exact hP.snoc (by omega) hq2.2
          obtain ⟨g, ⟨K1, h1⟩, ⟨K2, h2⟩, h3⟩ := ih (i + 1) (by omega) (out ++ [best]) (by rw [List.length_append, List.length_singleton, ho]) hP2
          refine ⟨g, ev_suc K1 fun k hk => ?_, ev_suc K2 fun k hk => ?_, h3⟩
          · simp only [spec_maFirst.l1]
            rw [if_neg (by omega), if_pos (by omega), w64s (by omega)]
            exact h1 k hk
          · simp only [impl_firstComeMatch.l1]
            rw [if_neg (by omega), if_pos (by omega), w64s (by omega)]
            exact h2 k hk
        | succ e ihe =>
          intro j hj best hb hq
          have hjl : j < l[i].length := by omega
          obtain ⟨KH, hH⟩ := l1Has_ev out (by omega) (j : Int)
          obtain ⟨KC, hC⟩ := slContains_ev out (by omega) (j : Int)
          by_cases c1 : (j : Int) ∈ out
          · obtain ⟨g0, ⟨K1, h1⟩, ⟨K2, h2⟩, h3⟩ := ihe (j + 1) (by omega) best hb (by
              rcases hq with ⟨q1, q2⟩ | hq
              · exact .inl ⟨q1, fun z hz => by
                  rcases Nat.lt_or_ge z j with h | h
                  · exact q2 z h
                  · rw [show z = j from by omega]; exact c1⟩
              · exact .inr hq)
            refine ⟨g0, ev_suc (K1 + KH) fun k hk => ?_, ev_suc (K2 + KC) fun k hk => ?_, h3⟩
            · simp only [spec_maFirst.l1]
              rw [if_pos (by omega), if_pos (by omega), if_pos (by omega), hH k (by omega)]
              simp only [Option.bind_some]
              rw [if_pos (decide_eq_true c1), w64s (by omega)]
              exact h1 k (by omega)
            · simp only [impl_firstComeMatch.l1]
              rw [if_pos (by omega), if_pos (by omega), if_pos (by omega), hC k (by omega)]
              simp only [Option.bind_some]
              rw [if_pos (decide_eq_true c1), w64s (by omega)]
              exact h2 k (by omega)
          · by_cases c2 : best < 0
            · obtain ⟨g1, ⟨K3, h4⟩, ⟨K4, h5⟩, h6⟩ := ihe (j + 1) (by omega) (j : Int) (by omega) (.inr ⟨by omega, c1⟩)
              refine ⟨g1, ev_suc (K3 + KH) fun k hk => ?_, ev_suc (K4 + KC) fun k hk => ?_, h6⟩
              · simp only [spec_maFirst.l1]
                rw [if_pos (by omega), if_pos (by omega), if_pos (by omega), hH k (by omega)]
                simp only [Option.bind_some]
                rw [if_neg (by simp [c1]), if_pos c2, w64s (by omega)]
                exact h4 k (by omega)
              · simp only [impl_firstComeMatch.l1]
                rw [if_pos (by omega), if_pos (by omega), if_pos (by omega), hC k (by omega)]
                simp only [Option.bind_some]
                rw [if_neg (by simp [c1]), if_pos c2, w64s (by omega)]
                exact h5 k (by omega)
            · by_cases c3 : rd l[i] (j : Int) < rd l[i] best
              · obtain ⟨g1, ⟨K3, h4⟩, ⟨K4, h5⟩, h6⟩ := ihe (j + 1) (by omega) (j : Int) (by omega) (.inr ⟨by omega, c1⟩)
                refine ⟨g1, ev_suc (K3 + KH) fun k hk => ?_, ev_suc (K4 + KC) fun k hk => ?_, h6⟩
                · simp only [spec_maFirst.l1]
                  rw [if_pos (by omega), if_pos (by omega), if_pos (by omega), hH k (by omega)]
                  simp only [Option.bind_some]
                  rw [if_neg (by simp [c1]), if_neg c2, if_pos (by omega), if_pos (by omega), if_pos c3, w64s (by omega)]
                  exact h4 k (by omega)
                · simp only [impl_firstComeMatch.l1]
                  rw [if_pos (by omega), if_pos (by omega), if_pos (by omega), hC k (by omega)]
                  simp only [Option.bind_some]
                  rw [if_neg (by simp [c1]), if_neg c2, if_pos (by omega), if_pos (by omega), if_pos c3, w64s (by omega)]
                  exact h5 k (by omega)
              · obtain ⟨g0, ⟨K1, h1⟩, ⟨K2, h2⟩, h3⟩ := ihe (j + 1) (by omega) best hb (.inr (hq.resolve_left (fun h => c2 h.1)))
                refine ⟨g0, ev_suc (K1 + KH) fun k hk => ?_, ev_suc (K2 + KC) fun k hk => ?_, h3⟩
                · simp only [spec_maFirst.l1]
                  rw [if_pos (by omega), if_pos (by omega), if_pos (by omega), hH k (by omega)]
                  simp only [Option.bind_some]
                  rw [if_neg (by simp [c1]), if_neg c2, if_pos (by omega), if_pos (by omega), if_neg c3, w64s (by omega)]
                  exact h1 k (by omega)
                · simp only [impl_firstComeMatch.l1]
                  rw [if_pos (by omega), if_pos (by omega), if_pos (by omega), hC k (by omega)]
                  simp only [Option.bind_some]
                  rw [if_neg (by simp [c1]), if_neg c2, if_pos (by omega), if_pos (by omega), if_neg c3, w64s (by omega)]
                  exact h2 k (by omega)
      obtain ⟨g, ⟨K1, h1⟩, ⟨K2, h2⟩, h3⟩ := inner l.length 0 (by omega) (-1) (by omega) (.inl ⟨by omega, fun z hz => by omega⟩)
      refine ⟨g, ev_suc K1 fun k hk => ?_, ev_suc K2 fun k hk => ?_, h3⟩
      · simp only [spec_maFirst.l0]
        rw [if_pos (by omega), if_pos (by omega), if_pos (by omega), rdLL_nat l i hlt]
        exact h1 k hk
      · simp only [impl_firstComeMatch.l0]
        rw [if_pos (by omega), if_pos (by omega), if_pos (by omega), rdLL_nat l i hlt]
        exact h2 k hk
  exact key l.length 0 (by omega) [] rfl ⟨by simp, fun x hx => by cases hx⟩
theorem regret_both (c : List (List Int)) (hl : c.length ≤ 1048576) (hx : ∀ x ∈ c, x.length ≤ 1048576) : ∃ (x : Int) (b : Bool), (∃ K, ∀ k, K ≤ k → spec_RegretOf.f k c = some (x, b)) ∧ (∃ K, ∀ k, K ≤ k → impl_RegretOf.f k c = some (x, b)) ∧ b = costsOk c ∧ (costsOk c = true → ∃ g f : List Int, (∃ K, ∀ k, K ≤ k → spec_maCheapest.f k c = some g) ∧ (∃ K, ∀ k, K ≤ k → spec_maFirst.f k c = some f) ∧ f.length = c.length ∧ Part c.length f ∧ x = costTo c f f.length - costTo c g g.length ∧ 0 ≤ x) := by
  obtain ⟨K2, h2⟩ := maCosts_ev c hl hx
  obtain ⟨K3, h3⟩ := implAreCosts_ev c hl hx
  by_cases hc : costsOk c = true
  · obtain ⟨q1, q2, q3⟩ := (costsOk_iff c).1 hc
    obtain ⟨g, ⟨K4, h4⟩, ⟨K5, h5⟩, h6, h7, h8⟩ := cheapest_both hc
    obtain ⟨f, ⟨K6, f1⟩, ⟨K7, f2⟩, f3, f4⟩ := firstCome_part c hl (fun x hx => (q1 x hx).1)
    have hfg := fits_of hc h6 h7
    have hff := fits_of hc f3 f4
    obtain ⟨⟨K8, h9⟩, _⟩ := maCost_ev hfg
    obtain ⟨⟨K9, h10⟩, K10, h11⟩ := maCost_ev hff
    have b1 := costTo_bounds hfg g.length (Nat.le_refl _)
    have b2 := costTo_bounds hff f.length (Nat.le_refl _)
    have hle := h8 f f3 f4
    have hw : wrap64 (costTo c f f.length - costTo c g g.length) = costTo c f f.length - costTo c g g.length := w64 (by omega) (by omega)
    refine ⟨costTo c f f.length - costTo c g g.length, true, ⟨K2 + K4 + K6 + K8 + K9, fun k hk => ?_⟩, ⟨K3 + K5 + K7 + K10, fun k hk => ?_⟩, hc.symm, fun _ => ⟨g, f, ⟨K4, h4⟩, ⟨K6, f1⟩, f3, f4, rfl, by omega⟩⟩
    · unfold spec_RegretOf.f
      rw [h2 k (by omega)]
      simp only [Option.bind_some]
      rw [if_pos hc, f1 k (by omega)]
      simp only [Option.bind_some]
      rw [h10 k (by omega)]
      simp only [Option.bind_some]
      rw [h4 k (by omega)]
      simp only [Option.bind_some]
      rw [h9 k (by omega)]
      simp only [Option.bind_some]
      rw [hw]
    · unfold impl_RegretOf.f
      rw [h3 k (by omega)]
      simp only [Option.bind_some]
      rw [if_pos hc, h5 k (by omega)]
      simp only [Option.bind_some]
      rw [f2 k (by omega)]
      simp only [Option.bind_some]
      rw [h11 k (by omega)]
      simp only [Option.bind_some]
      rw [hw]
  · refine ⟨0, false, ⟨K2, fun k hk => ?_⟩, ⟨K3, fun k hk => ?_⟩, (Bool.eq_false_iff.mpr hc).symm, fun h => absurd h hc⟩
    · unfold spec_RegretOf.f
      rw [h2 k (by omega)]
      simp only [Option.bind_some]
      rw [if_neg hc]
    · unfold impl_RegretOf.f
      rw [h3 k (by omega)]
      simp only [Option.bind_some]
      rw [if_neg hc]
/-! The draws: every byte string gives some numbers. -/
def bytes (l : List Int) : Prop := ∀ x ∈ l, 0 ≤ x ∧ x ≤ 255
theorem bytes_of {l : List Int} (h : ∀ x ∈ l, (Lit.int .u8 x).wf = true) : bytes l := by
  exact fun x hx => bounds_u8 (h x hx)
theorem and255 (a : Int) : 0 ≤ Go.bits .and .u64 (IntKind.u64.wrap a / 1099511627776) 255 ∧ Go.bits .and .u64 (IntKind.u64.wrap a / 1099511627776) 255 ≤ 255 := by
  have hw : 0 ≤ IntKind.u64.wrap a ∧ IntKind.u64.wrap a ≤ 18446744073709551615 := bounds_u64 (wf_wrap .u64 a)
  obtain ⟨n, hn⟩ : ∃ n : Nat, IntKind.u64.wrap a / 1099511627776 = (n : Int) := ⟨(IntKind.u64.wrap a / 1099511627776).toNat, by omega⟩
  rw [hn, show (255 : Int) = ((255 : Nat) : Int) from rfl, bits_and_u64_nat n 255 (by omega) (by omega)]
  have := Nat.and_le_right (n := n) (m := 255)
  omega
theorem next_ok {l : List Int} (hl : bytes l) (hn : l.length ≤ maxLen) {p : Int} (s : Int) (h0 : 0 ≤ p) (h1 : p ≤ 4000000000000000000) : ∃ b s', spec_l1Cur_next.f l p s = some (b, p + 1, s') ∧ 0 ≤ b ∧ b ≤ 255 := by
  unfold maxLen at hn
  unfold spec_l1Cur_next.f
  rw [w64 (x := p + 1) (by omega) (by omega)]
  have ha : ∀ a : Int, 0 ≤ wrap64 (Go.bits .and .u64 (IntKind.u64.wrap a / 1099511627776) 255) ∧ wrap64 (Go.bits .and .u64 (IntKind.u64.wrap a / 1099511627776) 255) ≤ 255 := by
    intro a
    have := and255 a
    rw [w64 (by omega) (by omega)]
    exact this
  by_cases c : p < (l.length : Int)
  · obtain ⟨q, rfl⟩ : ∃ q : Nat, p = (q : Int) := ⟨p.toNat, by omega⟩
    have hb := hl _ (List.getElem_mem (by omega : q < l.length))
    rw [if_pos c, if_pos h0, rd_nat l q (by omega)]
    have e : wrap64 l[q] = l[q] := w64 (by omega) (by omega)
    split
    · exact ⟨_, _, rfl, by rw [e]; exact hb.1, by rw [e]; exact hb.2⟩
    · exact ⟨_, _, rfl, (ha _).1, (ha _).2⟩
  · rw [if_neg c]
    split
    · exact ⟨_, _, rfl, by omega, by omega⟩
    · exact ⟨_, _, rfl, (ha _).1, (ha _).2⟩
theorem pick_ok {l : List Int} (hl : bytes l) (hn : l.length ≤ maxLen) {p : Int} (s n : Int) (h0 : 0 ≤ p) (h1 : p ≤ 4000000000000000000 - 2) : ∃ x p' s', spec_l1Cur_pick.f l p s n = some (x, p', s') ∧ 0 ≤ x ∧ (x < n ∨ x = 0) ∧ x ≤ 65535 ∧ p ≤ p' ∧ p' ≤ p + 2 := by
  unfold spec_l1Cur_pick.f
  by_cases c : n ≤ 1
  · rw [if_pos c]
    exact ⟨_, _, _, rfl, by omega, .inr rfl, by omega, by omega, by omega⟩
  · rw [if_neg c]
    obtain ⟨b, s1, e1, b0, b1⟩ := next_ok hl hn s h0 (by omega)
    rw [e1]
    simp only [Option.bind_some]
    by_cases c2 : n > 200
    · obtain ⟨b', s2, e2, b2, b3⟩ := next_ok hl hn s1 (p := p + 1) (by omega) (by omega)
      rw [if_pos c2, e2]
      simp only [Option.bind_some]
      rw [if_neg (by omega), w64 (x := b * 256) (by omega) (by omega), w64 (by omega) (by omega), Int.tmod_eq_emod_of_nonneg (by omega)]
      have := Int.emod_nonneg (b * 256 + b') (b := n) (by omega)
      have := Int.emod_lt_of_pos (b * 256 + b') (b := n) (by omega)
      have := Int.mul_ediv_add_emod (b * 256 + b') n
      have := Int.mul_nonneg (a := n) (b := (b * 256 + b') / n) (by omega) (Int.ediv_nonneg (by omega) (by omega))
      exact ⟨_, _, _, rfl, by omega, .inl (by omega), by omega, by omega, by omega⟩
    · rw [if_neg c2, if_neg (by omega), Int.tmod_eq_emod_of_nonneg (by omega)]
      have := Int.emod_nonneg b (b := n) (by omega)
      have := Int.emod_lt_of_pos b (b := n) (by omega)
      exact ⟨_, _, _, rfl, by omega, .inl (by omega), by omega, by omega, by omega⟩
theorem among_ok {l : List Int} (hl : bytes l) (hn : l.length ≤ maxLen) {p : Int} (s : Int) (xs : List Int) (hx : xs ≠ []) (h0 : 0 ≤ p) (h1 : p ≤ 4000000000000000000 - 2) : ∃ x p' s', spec_l1Cur_among.f l p s xs = some (x, p', s') ∧ x ∈ xs ∧ p ≤ p' ∧ p' ≤ p + 2 := by
  unfold spec_l1Cur_among.f
  obtain ⟨x, p', s', e, x0, x1, _, p0, p1⟩ := pick_ok hl hn s (xs.length : Int) h0 h1
  have hp := List.length_pos_iff.2 hx
  obtain ⟨q, rfl⟩ : ∃ q : Nat, x = (q : Int) := ⟨x.toNat, by omega⟩
  rw [e]
  simp only [Option.bind_some]
  rw [if_pos x0, if_pos (by omega), rd_nat xs q (by omega)]
  exact ⟨_, _, _, rfl, List.getElem_mem _, p0, p1⟩

theorem one_ok {l : List Int} (hl : bytes l) (hn : l.length ≤ maxLen) {p : Int} (s n : Int) (h0 : 0 ≤ p) (h1 : p ≤ 3000000000000000000) : ∃ x p' s', spec_l1Cur_one.f l p s n = some (x, p', s') ∧ p ≤ p' ∧ p' ≤ p + 2 := by
  unfold spec_l1Cur_one.f
  obtain ⟨x, p', s', e, _, _, _, q, r⟩ := pick_ok hl hn s n h0 (by omega)
  rw [e]; exact ⟨_, _, _, rfl, q, r⟩
theorem side_ok {l : List Int} (hl : bytes l) (hn : l.length ≤ maxLen) {p : Int} (s : Int) (h0 : 0 ≤ p) (h1 : p ≤ 2000000000000000000) : ∃ x p' s', spec_l1Cur_side.f l p s = some (x, p', s') ∧ 1 ≤ x ∧ x ≤ 8 ∧ p ≤ p' ∧ p' ≤ p + 6 := by
  unfold spec_l1Cur_side.f
  obtain ⟨x1, p1, s1, e1, a1, b1, _, q1, r1⟩ := pick_ok hl hn s 5 h0 (by omega)
  obtain ⟨x2, p2, s2, e2, q2, r2⟩ := one_ok hl hn s1 30 (p := p1) (by omega) (by omega)
  obtain ⟨x3, p3, s3, e3, a3, b3, _, q3, r3⟩ := pick_ok hl hn s2 2 (p := p2) (by omega) (by omega)
  simp only [e1, e2, e3, Option.bind_some]
  by_cases c : x2 = true
  · rw [if_pos c, w64 (by omega) (by omega)]
    exact ⟨_, _, _, rfl, by omega, by omega, by omega, by omega⟩
  · rw [if_neg c, w64 (by omega) (by omega)]
    exact ⟨_, _, _, rfl, by omega, by omega, by omega, by omega⟩
theorem perm_go {l : List Int} (hl : bytes l) (hn : l.length ≤ maxLen) : ∀ (d i : Nat) (x : List Int) (p s : Int), x.length = i → i + d ≤ 1000 → 0 ≤ p → p ≤ 2000000000000000000 - 2 * (d : Int) → ∃ y p' s', spec_l1Cur_permuted.go l d i x p s = some (y, p', s') ∧ y.length = i + d ∧ p ≤ p' ∧ p' ≤ p + 2 * (d : Int) := by
  intro d
  induction d with
  | zero => intro i x p s hx _ _ _; exact ⟨x, p, s, rfl, by omega, by omega, by omega⟩
  | succ d ih =>
    intro i x p s hx hd h0 h1
    obtain ⟨b, p1, s1, e1, a1, b1, _, q1, r1⟩ := pick_ok hl hn s ((i : Int) + 1) h0 (by omega)
    obtain ⟨y, p2, s2, e2, a2, q2, r2⟩ := ih (i + 1) (x.take b.toNat ++ [(i : Int)] ++ x.drop b.toNat) p1 s1 (by simp; omega) (by omega) (by omega) (by omega)
    simp only [spec_l1Cur_permuted.go]
    rw [e1]
    simp only [Option.bind_some]
    rw [if_pos ⟨a1, by omega⟩]
    exact ⟨y, p2, s2, e2, by omega, by omega, by omega⟩
theorem permuted_ok {l : List Int} (hl : bytes l) (hn : l.length ≤ maxLen) {p : Int} (s : Int) {n : Int} (h0 : 0 ≤ p) (h1 : p ≤ 1000000000000000000) (hb : n ≤ 100) : ∃ y p' s', spec_l1Cur_permuted.f l p s n = some (y, p', s') ∧ y.length = n.toNat ∧ p ≤ p' ∧ p' ≤ p + 200 := by
  unfold spec_l1Cur_permuted.f
  obtain ⟨y, p', s', e, a, q, r⟩ := perm_go hl hn n.toNat 0 [] p s rfl (by omega) h0 (by omega)
  rw [if_pos (by omega)]
  exact ⟨y, p', s', e, by omega, q, by omega⟩
theorem matchOf_ok {l : List Int} (hl : bytes l) (hn : l.length ≤ maxLen) {p : Int} (s : Int) {n : Int} (h0 : 0 ≤ p) (h1 : p ≤ 1000000000000000000) (hb0 : 0 ≤ n) (hb : n ≤ 100) : ∃ y p' s', spec_l1Cur_matchOf.f l p s n = some (y, p', s') ∧ y.length ≤ 101 ∧ p ≤ p' ∧ p' ≤ p + 202 := by
  unfold spec_l1Cur_matchOf.f
  obtain ⟨y, p1, s1, e1, a1, q1, r1⟩ := permuted_ok hl hn s h0 h1 hb
  obtain ⟨b, p2, s2, e2, _, _, _, q2, r2⟩ := pick_ok hl hn s1 24 (p := p1) (by omega) (by omega)
  simp only [e1, e2, Option.bind_some]
  by_cases c0 : b = 0
  · rw [if_pos c0, if_pos (by omega)]
    exact ⟨_, _, _, rfl, by simp; omega, by omega, by omega⟩
  · rw [if_neg c0]
    by_cases c1 : b = 1
    · rw [if_pos c1]
      by_cases c2 : n > 1
      · rw [if_pos c2, if_pos (by omega), if_pos (by omega)]
        exact ⟨_, _, _, rfl, by simp; omega, by omega, by omega⟩
      · rw [if_neg c2]
        exact ⟨_, _, _, rfl, by omega, by omega, by omega⟩
    · rw [if_neg c1]
      exact ⟨_, _, _, rfl, by omega, by omega, by omega⟩
theorem costs_l1 {l : List Int} (hl : bytes l) (hn : l.length ≤ maxLen) {n : Nat} (hnn : n ≤ 8) (x : List (List Int)) (hx : x.length < n) (R : Option (List (List Int) × Int × Int) → Prop) (next : ∀ (row : List Int) (p s : Int), row.length = n → 0 ≤ p → p ≤ 1000000 + 100 * (x.length + 1 : Nat) → ∃ r, R (some r) ∧ ∃ K, ∀ k, K ≤ k → spec_l1Cur_costs.l0 k (x ++ [row]) (n : Int) l p s = some r) : ∀ (d i : Nat) (row : List Int) (p s : Int), i + d = n → row.length = i → 0 ≤ p → p ≤ 1000000 + 100 * (x.length : Int) + 10 * (i : Int) → ∃ r, R (some r) ∧ ∃ K, ∀ k, K ≤ k → spec_l1Cur_costs.l1 k x (n : Int) row l p s = some r := by
  intro d
  induction d with
  | zero =>
    intro i row p s hi hr h0 h1
    obtain ⟨r, hR, K, h⟩ := next row p s (by omega) h0 (by omega)
    refine ⟨r, hR, ev_suc K fun k hk => ?_⟩
    simp only [spec_l1Cur_costs.l1]
    rw [if_neg (by omega), if_pos (by omega)]
    exact h k hk
  | succ d ih =>
    intro i row p s hi hr h0 h1
    obtain ⟨b, p1, s1, e1, a1, b1, _, q1, r1⟩ := pick_ok hl hn s 900 h0 (by omega)
    obtain ⟨v, p2, s2, e2, _, q2, r2⟩ := among_ok hl hn s1 [0, 1, 2, 3, 5, 9, b] (by simp) (p := p1) (by omega) (by omega)
    obtain ⟨r, hR, K, h⟩ := ih (i + 1) (row ++ [v]) p2 s2 (by omega) (by simp; omega) (by omega) (by omega)
    refine ⟨r, hR, ev_suc K fun k hk => ?_⟩
    simp only [spec_l1Cur_costs.l1]
    rw [if_pos (by omega), e1]
    simp only [Option.bind_some]
    rw [e2]
    simp only [Option.bind_some]
    rw [if_pos (by omega)]
    exact h k hk
def SmallRows (x : List (List Int)) : Prop := x.length ≤ 8 ∧ ∀ r ∈ x, r.length ≤ 100
theorem costs_l0 {l : List Int} (hl : bytes l) (hn : l.length ≤ maxLen) {n : Nat} (h1n : 1 ≤ n) (hnn : n ≤ 8) : ∀ (d i : Nat) (x : List (List Int)) (p s : Int), i + d = n → x.length = i → (∀ r ∈ x, r.length = n) → 0 ≤ p → p ≤ 1000000 + 100 * (i : Int) → ∃ r : List (List Int) × Int × Int, (SmallRows r.1 ∧ 0 ≤ r.2.1 ∧ r.2.1 ≤ 2000000) ∧ ∃ K, ∀ k, K ≤ k → spec_l1Cur_costs.l0 k x (n : Int) l p s = some r := by
  intro d
  induction d with
  | zero =>
    intro i x p s hi hx hr h0 h1
    obtain ⟨b, p1, s1, e1, a1, b1, _, q1, r1⟩ := pick_ok hl hn s (x.length : Int) h0 (by omega)
    obtain ⟨c, p2, s2, e2, a2, b2, _, q2, r2⟩ := pick_ok hl hn s1 24 (p := p1) (by omega) (by omega)
    obtain ⟨v, p3, s3, e3, _, q3, r3⟩ := among_ok hl hn s2 [(-1), 10000, 10001] (by simp) (p := p2) (by omega) (by omega)
    obtain ⟨q, rfl⟩ : ∃ q : Nat, b = (q : Int) := ⟨b.toNat, by omega⟩
    have hq : q < x.length := by omega
    have hrow : (rd_L1 x (q : Int)).length = n := by
      rw [show rd_L1 x (q : Int) = x[q] by simp [rd_L1, List.getD_eq_getElem?_getD, hq]]
      exact hr _ (List.getElem_mem hq)
    have hset : ∀ z : List Int, z.length ≤ 100 → SmallRows (x.set q z) := fun z hz => ⟨by simp; omega, fun r hm => by
      rcases List.mem_or_eq_of_mem_set hm with h | h
      · have := hr r h; omega
      · rw [h]; exact hz⟩
    have hxs : SmallRows x := ⟨by omega, fun r h => by have := hr r h; omega⟩
    have hun : ∀ k, spec_l1Cur_costs.l0 (k + 1) x (n : Int) l p s = some (if c = 0 then (x.set q ((rd_L1 x (q : Int)).set 0 v), p3, s3) else if c = 1 then (x.set q (rd_L1 x (q : Int) ++ [1]), p2, s2) else if c = 2 then ([], p2, s2) else (x, p2, s2)) := by
      intro k
      simp only [spec_l1Cur_costs.l0]
      rw [if_neg (by omega), e1]
      simp only [Option.bind_some]
      rw [e2]
      simp only [Option.bind_some]
      by_cases c0 : c = 0
      · rw [if_pos c0, if_pos c0, if_pos (by omega), if_pos (by omega), e3]
        simp only [Option.bind_some]
        rw [if_pos (by omega)]
        simp
      · rw [if_neg c0, if_neg c0]
        by_cases c1 : c = 1
        · rw [if_pos c1, if_pos c1, if_pos (by omega), if_pos (by omega), if_pos (by omega)]
          simp
        · rw [if_neg c1, if_neg c1]
          by_cases c2 : c = 2
          · rw [if_pos c2, if_pos c2]
          · rw [if_neg c2, if_neg c2]
    refine ⟨_, ?_, ev_suc 0 fun k _ => hun k⟩
    by_cases c0 : c = 0
    · rw [if_pos c0]; exact ⟨hset _ (by simp; omega), by simp only; omega, by simp only; omega⟩
    · rw [if_neg c0]
      by_cases c1 : c = 1
      · rw [if_pos c1]; exact ⟨hset _ (by simp; omega), by simp only; omega, by simp only; omega⟩
      · rw [if_neg c1]
        by_cases c2 : c = 2
        · rw [if_pos c2]; exact ⟨⟨by simp, by simp⟩, by simp only; omega, by simp only; omega⟩
        · rw [if_neg c2]; exact ⟨hxs, by simp only; omega, by simp only; omega⟩
  | succ d ih =>
    intro i x p s hi hx hr h0 h1
    obtain ⟨r, hR, K, h⟩ := costs_l1 hl hn (n := n) hnn x (by omega) (fun r => ∃ z : List (List Int) × Int × Int, r = some z ∧ SmallRows z.1 ∧ 0 ≤ z.2.1 ∧ z.2.1 ≤ 2000000) (fun row p s hrow h0 h1 => by
      obtain ⟨r, hR, hK⟩ := ih (i + 1) (x ++ [row]) p s (by omega) (by simp; omega) (fun z hz => by
        rcases List.mem_append.1 hz with h | h
        · exact hr z h
        · rw [List.mem_singleton.1 h]; exact hrow) h0 (by omega)
      exact ⟨r, ⟨r, rfl, hR⟩, hK⟩) n 0 [] p s (by omega) rfl h0 (by omega)
    obtain ⟨z, hz, hR⟩ := hR
    obtain rfl := Option.some.inj hz
    refine ⟨r, hR, ev_suc K fun k hk => ?_⟩
    simp only [spec_l1Cur_costs.l0]
    rw [if_pos (by omega)]
    exact h k hk
theorem costs_ok {l : List Int} (hl : bytes l) (hn : l.length ≤ maxLen) {p : Int} (s : Int) (h0 : 0 ≤ p) (h1 : p ≤ 900000) : ∃ x p' s', (∃ K, ∀ k, K ≤ k → spec_l1Cur_costs.f k l p s = some (x, p', s')) ∧ SmallRows x ∧ 0 ≤ p' ∧ p' ≤ 2000000 := by
  obtain ⟨n, p1, s1, e1, a1, b1, q1, r1⟩ := side_ok hl hn s h0 (by omega)
  obtain ⟨m, rfl⟩ : ∃ m : Nat, n = (m : Int) := ⟨n.toNat, by omega⟩
  obtain ⟨r, ⟨hR, h2, h3⟩, K, h⟩ := costs_l0 hl hn (n := m) (by omega) (by omega) m 0 [] p1 s1 (by omega) rfl (by simp) (by omega) (by omega)
  refine ⟨r.1, r.2.1, r.2.2, ⟨K, fun k hk => ?_⟩, hR, h2, h3⟩
  unfold spec_l1Cur_costs.f
  rw [e1]
  exact h k hk
theorem drawCosts_ok {l : List Int} (hl : bytes l) (hn : l.length ≤ maxLen) : ∃ x, SmallRows x ∧ ∃ K, ∀ k, K ≤ k → spec_DrawAreCosts.f k l = some x := by
  obtain ⟨x, p, s, ⟨K, h⟩, hx, _⟩ := costs_ok hl hn 0 (p := 0) (by omega) (by omega)
  refine ⟨x, hx, K, fun k hk => ?_⟩
  unfold spec_DrawAreCosts.f spec_DrawAreCosts.q
  rw [h k hk]; rfl
theorem drawMatchCost_ok {l : List Int} (hl : bytes l) (hn : l.length ≤ maxLen) : ∃ x y, SmallRows x ∧ y.length ≤ 101 ∧ ∃ K, ∀ k, K ≤ k → spec_DrawMatchCost.f k l = some (x, y) := by
  obtain ⟨x, p, s, ⟨K, h⟩, hx, p0, p1⟩ := costs_ok hl hn 0 (p := 0) (by omega) (by omega)
  obtain ⟨y, p', s', e, hy, _⟩ := matchOf_ok hl hn s (n := (x.length : Int)) p0 (by omega) (by omega) (by have := hx.1; omega)
  refine ⟨x, y, hx, hy, K, fun k hk => ?_⟩
  unfold spec_DrawMatchCost.f spec_DrawMatchCost.q
  rw [h k hk]
  simp only [Option.bind_some]
  rw [e]; rfl
theorem drawSwap_ok {l : List Int} (hl : bytes l) (hn : l.length ≤ maxLen) : ∃ y, y.length ≤ 101 ∧ spec_DrawSwapSides.f l = some y := by
  unfold spec_DrawSwapSides.f spec_DrawSwapSides.q
  obtain ⟨v, p, s, e, hv, q, r⟩ := among_ok hl hn 0 [0, 1, 2, 3, 5, 7, 8] (by simp) (p := 0) (by omega) (by omega)
  have hv2 : 0 ≤ v ∧ v ≤ 8 := by simp at hv; omega
  obtain ⟨y, p', s', e2, hy, _⟩ := matchOf_ok hl hn s (n := v) (p := p) (by omega) (by omega) (by omega) (by omega)
  refine ⟨y, hy, ?_⟩
  rw [e]
  simp only [Option.bind_some]
  rw [e2]; rfl
theorem qIntsM_ev (l : List Int) (hl : l.length ≤ 1048576) : ∃ K, ∀ k, K ≤ k → laws_qInts.f k l l = some true := by
  have h := ev_loop (F := fun k i => laws_qInts.l0 k l l (l.length : Int) (i : Int)) (n := l.length) (res := fun _ => true)
    (ev_suc 0 fun k _ => by simp only [laws_qInts.l0]; rw [if_neg (by omega)])
    (fun i hi K hK => ev_suc K fun k hk => by
      have h2 := hK k hk
      simp only [laws_qInts.l0]
      rw [if_pos (by omega), if_pos (by omega), if_pos (by omega), if_pos (by omega), if_pos trivial, w64s (by omega)]
      exact h2) 0 (Nat.zero_le _)
  obtain ⟨K, h⟩ := h
  refine ⟨K, fun k hk => ?_⟩
  unfold laws_qInts.f
  rw [if_pos rfl]
  exact h k hk
theorem match_allM {m : List Int} (hp : isMatchP m (m.length : Int)) (j : Nat) (hj : j < m.length) : (j : Int) ∈ m := by
  obtain ⟨_, h2, h3⟩ := hp
  apply Classical.byContradiction
  intro hn
  have h5 := nodup_len ((j : Int) :: m) ((List.range m.length).map fun (i : Nat) => (i : Int)) (List.nodup_cons.2 ⟨hn, h3⟩) (fun x hx => by
    rcases List.mem_cons.1 hx with rfl | hx
    · exact List.mem_map.2 ⟨j, List.mem_range.2 hj, rfl⟩
    · have := h2 x hx
      exact List.mem_map.2 ⟨x.toNat, List.mem_range.2 (by omega), by omega⟩)
  simp at h5
  omega
theorem rd_set2 (l : List Int) (i j : Nat) (x : Int) (hj : j < l.length) : rd (l.set i x) (j : Int) = if i = j then x else rd l (j : Int) := by
  unfold rd
  simp only [Int.toNat_natCast, List.getD_eq_getElem?_getD, List.getElem?_set]
  by_cases h : i = j
  · subst h; simp [hj]
  · simp [h]
theorem swapTo_at (m : List Int) (hp : isMatchP m (m.length : Int)) : ∀ n, n ≤ m.length → ∀ i, i < n → rd (swapTo m n) (rd m (i : Int)) = (i : Int) := by
  intro n
  induction n with
  | zero => intro _ i h; omega
  | succ n ih =>
    intro hn i hi
    obtain ⟨_, h2, h3⟩ := hp
    have hr : ∀ j, j < m.length → ∃ q : Nat, rd m (j : Int) = (q : Int) ∧ q < m.length ∧ m[j]? = some (q : Int) := by
      intro j hj
      have e : rd m (j : Int) = m[j] := rd_nat m j hj
      have := h2 _ (List.getElem_mem hj)
      exact ⟨(m[j]).toNat, by omega, by omega, by rw [List.getElem?_eq_getElem hj]; congr 1; omega⟩
    obtain ⟨q, e1, e2, e3⟩ := hr i (by omega)
    obtain ⟨r, f1, f2, f3⟩ := hr n (by omega)
    simp only [swapTo]
    rw [f1, e1, Int.toNat_natCast, rd_set2 _ _ _ _ (by rw [swapTo_length]; exact e2)]
    by_cases hc : r = q
    · rw [if_pos hc]
      by_cases hin : i = n
      · rw [hin]
      · exfalso
        subst hc
        have := (List.pairwise_iff_getElem.1 h3) i n (by omega) (by omega) (by omega)
        rw [List.getElem?_eq_getElem (by omega)] at e3 f3
        exact this ((Option.some.inj e3).trans (Option.some.inj f3).symm)
    · rw [if_neg hc, ← e1]
      by_cases hin : i = n
      · exfalso; subst hin; rw [e1] at f1; omega
      · exact ih (by omega) i (by omega)
theorem swap_back (m : List Int) (hp : isMatchP m (m.length : Int)) : isMatchP (swapTo m m.length) (m.length : Int) ∧ swapTo (swapTo m m.length) m.length = m := by
  have hl : (swapTo m m.length).length = m.length := swapTo_length m _
  have hat := swapTo_at m hp m.length (Nat.le_refl _)
  have hidx : ∀ j, j < m.length → ∃ i, i < m.length ∧ rd m (i : Int) = (j : Int) := by
    intro j hj
    obtain ⟨i, hi, e⟩ := List.mem_iff_getElem.1 (match_allM hp j hj)
    exact ⟨i, hi, by rw [rd_nat m i hi]; exact e⟩
  have hw : ∀ j, j < m.length → ∃ i, i < m.length ∧ rd m (i : Int) = (j : Int) ∧ rd (swapTo m m.length) (j : Int) = (i : Int) := by
    intro j hj
    obtain ⟨i, hi, e⟩ := hidx j hj
    exact ⟨i, hi, e, by rw [← e]; exact hat i hi⟩
  have hp2 : isMatchP (swapTo m m.length) (m.length : Int) := by
    refine ⟨by rw [hl], swapTo_mem m m.length (Nat.le_refl _), ?_⟩
    refine List.pairwise_iff_getElem.2 fun a b ha0 hb0 hab he => ?_
    have hb : b < m.length := by omega
    obtain ⟨i, hi, e1, e2⟩ := hw a (by omega)
    obtain ⟨j, hj, e3, e4⟩ := hw b hb
    have x1 : rd (swapTo m m.length) (a : Int) = rd (swapTo m m.length) (b : Int) := by
      rw [rd_nat _ a ha0, rd_nat _ b hb0, he]
    rw [e2, e4] at x1
    obtain rfl : i = j := by omega
    omega
  refine ⟨hp2, ?_⟩
  have hat2 := swapTo_at (swapTo m m.length) (by rw [hl]; exact hp2) m.length (by rw [hl]; exact Nat.le_refl _)
  apply List.ext_getElem (by rw [swapTo_length, hl])
  intro i h1 h2
  obtain ⟨q, hq1, hq2⟩ : ∃ q : Nat, q < m.length ∧ rd m (i : Int) = (q : Int) := by
    have := hp.2.1 _ (List.getElem_mem h2)
    exact ⟨(m[i]).toNat, by omega, by rw [rd_nat m i h2]; omega⟩
  have e5 := hat2 q hq1
  have e6 : rd (swapTo m m.length) (q : Int) = (i : Int) := by rw [← hq2]; exact hat i h2
  rw [e6] at e5
  rw [← rd_nat _ i h1, e5, ← hq2, rd_nat m i h2]
theorem FnMatches : laws_FnMatches.Pure := by
  intro l0 l1 h1 _ hw1 h2 _ hw2
  obtain ⟨c, hc, Ka, ha⟩ := drawCosts_ok (bytes_of hw1) h1
  obtain ⟨x, y, hx, hy, Kb, hb⟩ := drawMatchCost_ok (bytes_of hw2) h2
  obtain ⟨s, hs, es⟩ := drawSwap_ok (bytes_of hw2) h2
  have c1 : c.length ≤ 1048576 := by have := hc.1; omega
  have c2 : ∀ r ∈ c, r.length ≤ 1048576 := fun r h => by have := hc.2 r h; omega
  have x1 : x.length ≤ 1048576 := by have := hx.1; omega
  have x2 : ∀ r ∈ x, r.length ≤ 1048576 := fun r h => by have := hx.2 r h; omega
  obtain ⟨g, v, b, ⟨K1, e1⟩, ⟨K2, e2⟩, g7, rfl, hg⟩ := cheapestMatch_both c c1 c2
  obtain ⟨gx, vx, bx, ⟨K3, e3⟩, ⟨K4, e4⟩, _, rfl, hgx⟩ := cheapestMatch_both x x1 x2
  obtain ⟨rv, rb, ⟨K5, e5⟩, ⟨K6, e6⟩, rfl, hrg⟩ := regret_both c c1 c2
  obtain ⟨mc, ⟨K7, e7⟩, ⟨K8, e8⟩, hm1, hm2⟩ := matchCost_both x y x1 x2 (by omega)
  obtain ⟨sw, ⟨K9, e9⟩, ⟨K10, e10⟩, sw7, hs1, hs2⟩ := swapSides_both s (by omega)
  obtain ⟨K11, e11⟩ := implAreCosts_ev c c1 c2
  obtain ⟨K12, e12⟩ := maCosts_ev c c1 c2
  -- the first come match
  obtain ⟨f, K13, hf, hf7, hfc⟩ : ∃ (f : List Int) (K : Nat), (∀ k, K ≤ k → spec_FirstComeMatch.f k c = some (f, costsOk c) ∧ impl_FirstComeMatch.f k c = some (f, costsOk c)) ∧ f.length ≤ 7 ∧ (costsOk c = true → f.length = c.length ∧ Part c.length f ∧ ∃ K, ∀ k, K ≤ k → spec_maFirst.f k c = some f) := by
    by_cases hok : costsOk c = true
    · obtain ⟨q1, q2, q3⟩ := (costsOk_iff c).1 hok
      obtain ⟨f, ⟨K13, f1⟩, ⟨K14, f2⟩, f3, f4⟩ := firstCome_part c c1 (fun r h => (q1 r h).1)
      refine ⟨f, K11 + K12 + K13 + K14, fun k hk => ⟨?_, ?_⟩, by omega, fun _ => ⟨f3, f4, K13, f1⟩⟩
      · unfold spec_FirstComeMatch.f
        rw [e12 k (by omega)]
        simp only [Option.bind_some]
        rw [if_pos hok, f1 k (by omega), hok]; rfl
      · unfold impl_FirstComeMatch.f
        rw [e11 k (by omega)]
        simp only [Option.bind_some]
        rw [if_pos hok, f2 k (by omega), hok]; rfl
    · refine ⟨[], K11 + K12, fun k hk => ⟨?_, ?_⟩, by simp, fun h => absurd h hok⟩
      · unfold spec_FirstComeMatch.f
        rw [e12 k (by omega)]
        simp only [Option.bind_some]
        rw [if_neg hok, Bool.eq_false_iff.mpr hok]
      · unfold impl_FirstComeMatch.f
        rw [e11 k (by omega)]
        simp only [Option.bind_some]
        rw [if_neg hok, Bool.eq_false_iff.mpr hok]
  obtain ⟨K15, e15⟩ := qIntsM_ev g (by omega)
  obtain ⟨K16, e16⟩ := qIntsM_ev f (by omega)
  obtain ⟨K17, e17⟩ := qIntsM_ev sw.1 (by omega)
  obtain ⟨K18, e18⟩ := qIntsM_ev s (by omega)
  -- what the matches of the first costs cost
  obtain ⟨ra, ⟨K19, _⟩, ⟨K20, e20⟩, ha1, _⟩ := matchCost_both c g c1 c2 (by omega)
  obtain ⟨rf, ⟨K21, _⟩, ⟨K22, e22⟩, hf1, _⟩ := matchCost_both c f c1 c2 (by omega)
  obtain ⟨sb, ⟨K23, _⟩, ⟨K24, e24⟩, _, hb1, _⟩ := swapSides_both sw.1 (by omega)
  obtain ⟨B, hB⟩ : ∃ B, B = Ka + Kb + K1 + K2 + K3 + K4 + K5 + K6 + K7 + K8 + K9 + K10 + K11 + K12 + K13 + K15 + K16 + K17 + K18 + K20 + K22 + K24 := ⟨_, rfl⟩
  refine ⟨B + 3, ?_⟩
  unfold laws_FnMatches.f
  by_cases c0 : wrap64 ((l0.length : Int) + (l1.length : Int)) > 1048576
  · rw [if_pos c0]
  have hJ2 : laws_FnMatches.j2 (B + 1) c g (costsOk c) v f rv = some true := by
    simp only [laws_FnMatches.j2]
    by_cases hok : costsOk c = true
    · obtain ⟨i1, i2, i3, i4⟩ := hg hok
      obtain ⟨f1, f2, K30, f3⟩ := hfc hok
      obtain ⟨g', f', ⟨K31, r1⟩, ⟨K32, r2⟩, r3, r4, r5, r6⟩ := hrg hok
      obtain ⟨g2, ⟨K33, s1⟩, _, s3, s4, s5⟩ := cheapest_both hok
      have eg : g' = g2 := Option.some.inj ((r1 (K31 + K33) (by omega)).symm.trans (s1 (K31 + K33) (by omega)))
      have ef : f' = f := Option.some.inj ((r2 (K30 + K32) (by omega)).symm.trans (f3 (K30 + K32) (by omega)))
      subst eg ef
      have m1 : isMatchP g (c.length : Int) := ⟨by omega, i2.lt, i2.nd⟩
      have m2 : isMatchP f' (c.length : Int) := ⟨by omega, f2.lt, f2.nd⟩
      have cg : costTo c g g.length = costTo c g' g'.length := by
        have y1 := i4 g' s3 s4
        have y2 := s5 g i1 i2
        omega
      obtain rfl := ha1 hok m1
      obtain rfl := hf1 hok m2
      have hff := fits_of hok f1 f2
      have b1 := costTo_bounds hff f'.length (Nat.le_refl _)
      have hfg := fits_of hok i1 i2
      have b2 := costTo_bounds hfg g.length (Nat.le_refl _)
      rw [if_pos hok, e20 B (by omega), e22 B (by omega)]
      simp only [Option.bind_some, if_true]
      rw [if_pos i3.symm, w64 (by omega) (by omega), if_pos (by omega)]
      simp only [ge_iff_le, Option.some.injEq, decide_eq_true_eq]
      exact r6
    · rw [if_neg hok]
  have hJ1 : laws_FnMatches.j1 (B + 2) c g (costsOk c) v f rv x mc.2 mc.1 = some true := by
    simp only [laws_FnMatches.j1]
    by_cases hok : costsOk x = true ∧ isMatchP y (x.length : Int)
    · obtain rfl := hm1 hok.1 hok.2
      obtain ⟨i1, i2, i3, i4⟩ := hgx hok.1
      simp only [if_true]
      rw [e4 (B + 1) (by omega), hok.1]
      simp only [Option.bind_some, if_true]
      have := i4 y (by have := hok.2.1; omega) ⟨hok.2.2.2, hok.2.2.1⟩
      rw [if_neg (by omega)]
      exact hJ2
    · obtain rfl := hm2 hok
      simp only [Bool.false_eq_true, if_false]
      exact hJ2
  rw [if_neg c0]
  unfold spec_DrawCheapestMatch.f
  rw [ha (B + 3) (by omega)]
  simp only [Option.bind_some]
  rw [e1 (B + 3) (by omega), e2 (B + 3) (by omega), (hf (B + 3) (by omega)).1, (hf (B + 3) (by omega)).2, e5 (B + 3) (by omega), e6 (B + 3) (by omega), hb (B + 3) (by omega), es]
  simp only [Option.bind_some]
  rw [e7 (B + 3) (by omega), e8 (B + 3) (by omega), e9 (B + 3) (by omega), e10 (B + 3) (by omega)]
  simp only [Option.bind_some, bne_self_eq_false, Bool.false_eq_true, if_false, if_true]
  rw [e15 (B + 3) (by omega), e16 (B + 3) (by omega), e17 (B + 3) (by omega), e11 (B + 3) (by omega)]
  simp only [Option.bind_some, bne_self_eq_false, Bool.false_eq_true, if_false, if_true]
  simp only [laws_FnMatches.j0, Bool.false_eq_true, if_false]
  by_cases hok : isMatchP s (s.length : Int) ∧ 1 ≤ s.length ∧ s.length ≤ 7
  · obtain rfl := hs1 hok.1 hok.2.1 hok.2.2
    obtain ⟨w1, w2⟩ := swap_back s hok.1
    have hl := swapTo_length s s.length
    have hb2 := hb1 (by simp only [hl]; exact w1) (by simp only [hl]; exact hok.2.1) (by simp only [hl]; exact hok.2.2)
    simp only [hl, w2] at hb2
    subst hb2
    simp only [if_true]
    rw [e24 (B + 2) (by omega)]
    simp only [Option.bind_some, if_true]
    rw [e18 (B + 2) (by omega)]
    simp only [Option.bind_some, if_true]
    exact hJ1
  · obtain rfl := hs2 hok
    simp only [Bool.false_eq_true, if_false]
    exact hJ1

end Go.Proofs.Ytjipboafhakjfaa.Pure
