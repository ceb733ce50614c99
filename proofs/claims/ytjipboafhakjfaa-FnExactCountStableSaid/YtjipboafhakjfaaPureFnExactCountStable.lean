/- THE PURE SIDE OF FnExactCountStable: the printed functions of the reference and of the program give the same results. Plain Lean: no memory and no Go. -/
import Derived.Test.YtjipboafhakjfaaPFnExactCountStablex8
import Derived.OpenShut
namespace Go.Proofs.Ytjipboafhakjfaa.Pure
open Go.RowKit Go.Proofs.Ytjipboafhakjfaa.PFnExactCountStable Go.Proofs.YtjipboafhakjfaaW.PrintWords Go.Proofs.YtjipboafhakjfaaW.PrintLast Go.Proofs.YtjipboafhakjfaaW.PrintMore
set_option linter.unusedVariables false
set_option linter.unusedSimpArgs false

theorem w64 {x : Int} (h1 : -9223372036854775808 ≤ x) (h2 : x ≤ 9223372036854775807) : wrap64 x = x := by unfold wrap64; omega
theorem w64s {i : Nat} (h : i ≤ 9000000000000000000) : wrap64 ((i : Int) + 1) = ((i + 1 : Nat) : Int) := by rw [w64 (by omega) (by omega)]; omega
theorem rd_nat (l : List Int) (i : Nat) (h : i < l.length) : rd l (i : Int) = l[i] := by simp [rd, List.getD_eq_getElem?_getD, h]
theorem wf64 {x : Int} (h : (Lit.int .i64 x).wf = true) : -9223372036854775808 ≤ x ∧ x ≤ 9223372036854775807 := by
  have := bounds_i64 h
  omega
def inr (lo hi x : Int) : Bool := decide (lo ≤ x) && decide (x ≤ hi)
theorem inr_iff (lo hi x : Int) : inr lo hi x = true ↔ lo ≤ x ∧ x ≤ hi := by simp [inr]
theorem inr_false (lo hi x : Int) : inr lo hi x = false ↔ ¬ (lo ≤ x ∧ x ≤ hi) := by rw [← inr_iff, Bool.not_eq_true]
theorem mx_of_lt {a b : Int} (h : a < b) : mx a b = b := if_pos h
theorem mx_of_ge {a b : Int} (h : b ≤ a) : mx a b = a := if_neg (by omega)
theorem mx_spec (a b : Int) : a ≤ mx a b ∧ b ≤ mx a b ∧ (mx a b = a ∨ mx a b = b) := by unfold mx; split <;> omega
theorem l1In_eq (a b c : Int) : spec_l1In.f a b c = some (inr b c a) := by
  unfold spec_l1In.f inr
  by_cases h : a ≥ b
  · rw [if_pos h]; simp [show b ≤ a from h]
  · rw [if_neg h]; simp [show ¬ b ≤ a from h]
theorem l1All_l0 (lo hi : Int) (l : List Int) (hl : l.length ≤ 9000000000000000000) : ∀ (d k i : Nat), i + d = l.length → d < k → spec_l1All.l0 k lo hi l (l.length : Int) (i : Int) = some ((l.drop i).all (inr lo hi)) := by
  intro d
  induction d with
  | zero =>
    intro k i hi' hk
    obtain ⟨k, rfl⟩ : ∃ m, k = m + 1 := ⟨k - 1, by omega⟩
    simp only [spec_l1All.l0]
    rw [if_neg (by omega), List.drop_of_length_le (by omega)]; rfl
  | succ d ih =>
    intro k i hi' hk
    obtain ⟨k, rfl⟩ : ∃ m, k = m + 1 := ⟨k - 1, by omega⟩
    have hlt : i < l.length := by omega
    simp only [spec_l1All.l0]
    rw [if_pos (by omega), if_pos (by omega), if_pos (by omega), l1In_eq, List.drop_eq_getElem_cons hlt, List.all_cons, rd_nat l i hlt, w64s (by omega), ih k (i + 1) (by omega) (by omega)]
    simp only [Option.bind_some]
    by_cases h : inr lo hi l[i] = true
    · rw [if_pos h, h, Bool.true_and]
    · rw [if_neg h, Bool.eq_false_iff.mpr h, Bool.false_and]
theorem l1All_eq (lo hi : Int) (l : List Int) (hl : l.length ≤ 9000000000000000000) (k : Nat) (hk : l.length < k) : spec_l1All.f k l lo hi = some (l.all (inr lo hi)) := by
  unfold spec_l1All.f
  exact l1All_l0 lo hi l hl l.length k 0 (by omega) hk
theorem eqIntS_l0 (l : List Int) (hl : l.length ≤ 9000000000000000000) : ∀ (d k i : Nat), i + d = l.length → d < k → laws_eqIntS.l0 k l l (i : Int) = some true := by
  intro d
  induction d with
  | zero =>
    intro k i hi' hk
    obtain ⟨k, rfl⟩ : ∃ m, k = m + 1 := ⟨k - 1, by omega⟩
    simp only [laws_eqIntS.l0]
    rw [if_neg (by omega)]
  | succ d ih =>
    intro k i hi' hk
    obtain ⟨k, rfl⟩ : ∃ m, k = m + 1 := ⟨k - 1, by omega⟩
    simp only [laws_eqIntS.l0]
    rw [if_pos (by omega), if_pos (by omega), if_pos (by omega), if_pos trivial, w64s (by omega)]
    exact ih k (i + 1) (by omega) (by omega)
theorem eqIntS_self (l : List Int) (hl : l.length ≤ 9000000000000000000) (k : Nat) (hk : l.length < k) : laws_eqIntS.f k l l = some true := by
  unfold laws_eqIntS.f
  rw [if_pos rfl]
  exact eqIntS_l0 l hl l.length k 0 (by omega) hk
theorem ev_loop {β : Type} {F : Nat → Nat → Option β} {n : Nat} {res : Nat → β} (last : ∃ K, ∀ k, K ≤ k → F k n = some (res n)) (step : ∀ i, i < n → ∀ K, (∀ k, K ≤ k → F k (i + 1) = some (res (i + 1))) → ∃ K, ∀ k, K ≤ k → F k i = some (res i)) : ∀ i, i ≤ n → ∃ K, ∀ k, K ≤ k → F k i = some (res i) := by
  have key : ∀ d i, i + d = n → ∃ K, ∀ k, K ≤ k → F k i = some (res i) := by
    intro d
    induction d with
    | zero => intro i h; obtain rfl : i = n := by omega
              exact last
    | succ d ih =>
      intro i h
      obtain ⟨K, hK⟩ := ih (i + 1) (by omega)
      exact step i (by omega) K hK
  exact fun i h => key (n - i) i (by omega)
/-- One round more. -/
theorem ev_suc {β : Type} {g : Nat → Option β} {r : β} (K : Nat) (h : ∀ k, K ≤ k → g (k + 1) = some r) : ∃ K, ∀ k, K ≤ k → g k = some r :=
  ⟨K + 1, fun k hk => by obtain ⟨k, rfl⟩ : ∃ m, k = m + 1 := ⟨k - 1, by omega⟩; exact h k (by omega)⟩
theorem fill_step {α : Type} (l : List α) (z : α) (i : Nat) (h : i < l.length) : (l.take i ++ List.replicate (l.length - i) z).set i l[i] = l.take (i + 1) ++ List.replicate (l.length - (i + 1)) z := by
  have e : l.length - i = (l.length - (i + 1)) + 1 := by omega
  rw [List.set_append_right _ _ (by rw [List.length_take]; omega), List.length_take, Nat.min_eq_left (by omega), Nat.sub_self, e, List.replicate_succ, List.set_cons_zero, List.take_succ_eq_append_getElem h, List.append_assoc, List.singleton_append]
theorem fill_length {α : Type} (l : List α) (z : α) (i : Nat) (h : i ≤ l.length) : (l.take i ++ List.replicate (l.length - i) z).length = l.length := by
  rw [List.length_append, List.length_take, List.length_replicate]; omega
theorem fill_last {α : Type} (l : List α) (z : α) : l.take l.length ++ List.replicate (l.length - l.length) z = l := by simp
/-- What 'sz' leaves: where it isn't below 0, the row is no longer than that. -/
theorem szIntS_ev (l : List Int) (a : Int) (ha : 0 ≤ a ∧ a ≤ 1048576) (hl : l.length ≤ maxLen) : ∃ r, laws_szIntS.f l a = some r ∧ (0 ≤ r → r = a - l.length) ∧ (r < 0 → a < l.length) := by
  simp only [maxLen] at hl
  unfold laws_szIntS.f
  rw [w64 (by omega) (by omega)]
  by_cases h : a - (l.length : Int) < 0
  · exact ⟨-1, by rw [if_pos h], fun h2 => by omega, fun _ => by omega⟩
  · exact ⟨a - (l.length : Int), by rw [if_neg h], fun _ => rfl, fun h2 => by omega⟩
theorem rdLL_nat (l : List (List Int)) (i : Nat) (h : i < l.length) : rd_L1 l (i : Int) = l[i] := by simp [rd_L1, List.getD_eq_getElem?_getD, h]
theorem szIntSS_ev (l : List (List Int)) (a : Int) (ha : 0 ≤ a ∧ a ≤ 1048576) (hl : l.length ≤ maxLen) (hx : ∀ x ∈ l, x.length ≤ maxLen) : ∃ r, (∃ K, ∀ k, K ≤ k → laws_szIntSS.f k l a = some r) ∧ (0 ≤ r → r ≤ a ∧ (l.length : Int) ≤ a ∧ ∀ x ∈ l, (x.length : Int) ≤ a) := by
  simp only [maxLen] at hl
  by_cases h : a - (l.length : Int) < 0
  · refine ⟨-1, ⟨0, fun k _ => ?_⟩, fun h2 => by omega⟩
    unfold laws_szIntSS.f
    rw [w64 (by omega) (by omega), if_pos h]
  · have key : ∀ d i, i + d = l.length → ∀ b : Int, 0 ≤ b → b ≤ a → ∃ r, (∃ K, ∀ k, K ≤ k → laws_szIntSS.l0 k l b (i : Int) = some r) ∧ (0 ≤ r → r ≤ b ∧ ∀ x ∈ l.drop i, (x.length : Int) ≤ a) := by
      intro d
      induction d with
      | zero =>
        intro i hi b hb hba
        refine ⟨b, ev_suc 0 fun k _ => ?_, fun _ => ⟨by omega, fun x hx => ?_⟩⟩
        · simp only [laws_szIntSS.l0]
          rw [if_neg (by omega)]
        · rw [List.drop_of_length_le (by omega)] at hx
          simp at hx
      | succ d ih =>
        intro i hi b hb hba
        have hlt : i < l.length := by omega
        obtain ⟨r, h1, h2, h3⟩ := szIntS_ev l[i] b (by omega) (hx _ (List.getElem_mem hlt))
        by_cases h4 : r < 0
        · refine ⟨-1, ev_suc 0 fun k _ => ?_, fun h5 => by omega⟩
          simp only [laws_szIntSS.l0]
          rw [if_pos (by omega), if_pos (by omega), rdLL_nat l i hlt, h1]
          simp only [Option.bind_some]
          rw [if_pos h4]
        · have h5 := h2 (by omega)
          obtain ⟨r2, ⟨K, h6⟩, h7⟩ := ih (i + 1) (by omega) r (by omega) (by omega)
          refine ⟨r2, ev_suc K fun k hk => ?_, fun h8 => ⟨by have := (h7 h8).1; omega, fun x hx => ?_⟩⟩
          · simp only [laws_szIntSS.l0]
            rw [if_pos (by omega), if_pos (by omega), rdLL_nat l i hlt, h1]
            simp only [Option.bind_some]
            rw [if_neg h4, w64s (by omega)]
            exact h6 k hk
          · rw [List.drop_eq_getElem_cons hlt] at hx
            rcases List.mem_cons.1 hx with rfl | hx
            · omega
            · exact (h7 h8).2 x hx
    obtain ⟨r, ⟨K, h1⟩, h2⟩ := key l.length 0 (by omega) (a - l.length) (by omega) (by omega)
    refine ⟨r, ⟨K, fun k hk => ?_⟩, fun h3 => ⟨by have := (h2 h3).1; omega, by omega, by simpa using (h2 h3).2⟩⟩
    unfold laws_szIntSS.f
    rw [w64 (by omega) (by omega), if_neg h]
    exact h1 k hk
theorem toIntS_ev (l : List Int) (hl : l.length ≤ 1048576) : ∃ K, ∀ k, K ≤ k → laws_toIntS.f k l = some l := by
  have h := ev_loop (F := fun k i => laws_toIntS.l0 k l (l.take i ++ List.replicate (l.length - i) 0) (i : Int)) (n := l.length) (res := fun _ => l)
    (ev_suc 0 fun k _ => by simp only [laws_toIntS.l0]; rw [if_neg (by omega), fill_last])
    (fun i hi K hK => ev_suc K fun k hk => by
      simp only [laws_toIntS.l0]
      rw [if_pos (by omega), if_pos (by omega), if_pos (by rw [fill_length l 0 i (by omega)]; omega), Int.toNat_natCast, rd_nat l i hi, fill_step l 0 i hi, w64s (by omega)]
      exact hK k hk) 0 (Nat.zero_le _)
  obtain ⟨K, h⟩ := h
  refine ⟨K, fun k hk => ?_⟩
  unfold laws_toIntS.f
  rw [if_pos (by omega), if_pos (by omega), Int.toNat_natCast]
  simpa using h k hk
theorem toIntSS_ev (l : List (List Int)) (hl : l.length ≤ 1048576) (hx : ∀ x ∈ l, x.length ≤ 1048576) : ∃ K, ∀ k, K ≤ k → laws_toIntSS.f k l = some l := by
  have h := ev_loop (F := fun k i => laws_toIntSS.l0 k l (l.take i ++ List.replicate (l.length - i) []) (i : Int)) (n := l.length) (res := fun _ => l)
    (ev_suc 0 fun k _ => by simp only [laws_toIntSS.l0]; rw [if_neg (by omega), fill_last])
    (fun i hi K hK => by
      obtain ⟨K2, h2⟩ := toIntS_ev l[i] (hx _ (List.getElem_mem hi))
      exact ev_suc (max K K2) fun k hk => by
        simp only [laws_toIntSS.l0]
        rw [if_pos (by omega), if_pos (by omega), rdLL_nat l i hi, h2 k (by omega)]
        simp only [Option.bind_some]
        rw [if_pos (by rw [fill_length l [] i (by omega)]; omega), Int.toNat_natCast, fill_step l [] i hi, w64s (by omega)]
        exact hK k (by omega)) 0 (Nat.zero_le _)
  obtain ⟨K, h⟩ := h
  refine ⟨K, fun k hk => ?_⟩
  unfold laws_toIntSS.f
  rw [if_pos (by omega), if_pos (by omega), Int.toNat_natCast]
  simpa using h k hk
theorem eqIntS_ev (l : List Int) (hl : l.length ≤ 1048576) : ∃ K, ∀ k, K ≤ k → laws_eqIntS.f k l l = some true :=
  ⟨l.length + 1, fun k hk => eqIntS_self l (by omega) k (by omega)⟩
theorem eqIntSS_ev (l : List (List Int)) (hl : l.length ≤ 1048576) (hx : ∀ x ∈ l, x.length ≤ 1048576) : ∃ K, ∀ k, K ≤ k → laws_eqIntSS.f k l l = some true := by
  have h := ev_loop (F := fun k i => laws_eqIntSS.l0 k l l (i : Int)) (n := l.length) (res := fun _ => true)
    (ev_suc 0 fun k _ => by simp only [laws_eqIntSS.l0]; rw [if_neg (by omega)])
    (fun i hi K hK => by
      obtain ⟨K2, h2⟩ := eqIntS_ev l[i] (hx _ (List.getElem_mem hi))
      exact ev_suc (max K K2) fun k hk => by
        simp only [laws_eqIntSS.l0]
        rw [if_pos (by omega), if_pos (by omega), if_pos (by omega), rdLL_nat l i hi, h2 k (by omega)]
        simp only [Option.bind_some]
        rw [if_pos trivial, w64s (by omega)]
        exact hK k (by omega)) 0 (Nat.zero_le _)
  obtain ⟨K, h⟩ := h
  refine ⟨K, fun k hk => ?_⟩
  unfold laws_eqIntSS.f
  rw [if_pos rfl]
  exact h k hk
theorem l1All_ev (lo hi : Int) (l : List Int) (hl : l.length ≤ 1048576) : ∃ K, ∀ k, K ≤ k → spec_l1All.f k l lo hi = some (l.all (inr lo hi)) :=
  ⟨l.length + 1, fun k hk => l1All_eq lo hi l (by omega) k (by omega)⟩

/-- A number put into an increasing list, unless it is there. -/
def put : List Int → Int → List Int
  | [], n => [n]
  | x :: r, n => if x < n then x :: put r n else if x = n then x :: r else n :: x :: r
theorem put_mem (n z : Int) : ∀ l : List Int, z ∈ put l n ↔ z = n ∨ z ∈ l := by
  intro l
  induction l with
  | nil => simp [put]
  | cons x r ih =>
    simp only [put]
    split
    · rw [List.mem_cons, ih, List.mem_cons]
      constructor
      · rintro (h | h | h) <;> simp [h]
      · rintro (h | h | h) <;> simp [h]
    · split
      · rename_i h
        rw [List.mem_cons]
        constructor
        · intro h2; exact .inr h2
        · rintro (h2 | h2)
          · exact .inl (h2.trans h.symm)
          · exact h2
      · simp
theorem put_sorted (n : Int) : ∀ l : List Int, l.Pairwise (· < ·) → (put l n).Pairwise (· < ·) := by
  intro l
  induction l with
  | nil => intro _; simp [put]
  | cons x r ih =>
    intro h
    obtain ⟨h1, h2⟩ := List.pairwise_cons.1 h
    simp only [put]
    split
    · rename_i hx
      refine List.pairwise_cons.2 ⟨fun z hz => ?_, ih h2⟩
      rcases (put_mem n z r).1 hz with rfl | hz
      · exact hx
      · exact h1 z hz
    · split
      · exact h
      · refine List.pairwise_cons.2 ⟨fun z hz => ?_, h⟩
        rcases List.mem_cons.1 hz with rfl | hz
        · omega
        · have := h1 z hz
          omega
theorem put_length (n : Int) : ∀ l : List Int, l.Pairwise (· < ·) → (put l n).length = if n ∈ l then l.length else l.length + 1 := by
  intro l
  induction l with
  | nil => intro _; simp [put]
  | cons x r ih =>
    intro h
    obtain ⟨h1, h2⟩ := List.pairwise_cons.1 h
    simp only [put]
    split
    · rename_i hx
      rw [List.length_cons, ih h2, List.length_cons]
      have e : n ∈ x :: r ↔ n ∈ r := by
        rw [List.mem_cons]
        constructor
        · rintro (h | h)
          · omega
          · exact h
        · exact .inr
      by_cases hn : n ∈ r
      · rw [if_pos hn, if_pos (e.2 hn)]
      · rw [if_neg hn, if_neg (fun h => hn (e.1 h))]
    · split
      · rename_i hx
        rw [if_pos (by rw [← hx]; exact List.mem_cons_self)]
      · rw [if_neg (fun hn => by
          rcases List.mem_cons.1 hn with hn | hn
          · omega
          · have := h1 n hn
            omega)]
        rfl
theorem put_len_le (n : Int) (l : List Int) : (put l n).length ≤ l.length + 1 := by
  induction l with
  | nil => simp [put]
  | cons x r ih => simp only [put]; split <;> (try split) <;> simp <;> omega
theorem l1Put_ev (l : List Int) (hl : l.length ≤ 2097152) (n : Int) : ∃ K, ∀ k, K ≤ k → spec_l1Put.f k l n = some (put l n) := by
  have h := ev_loop (F := fun k i => spec_l1Put.l0 k l n (i : Int)) (n := l.length) (res := fun i => l.take i ++ put (l.drop i) n)
    (ev_suc 0 fun k _ => by
      simp only [spec_l1Put.l0]
      rw [if_neg (by omega)]
      simp only [Option.bind_some]
      rw [if_pos (by omega), if_pos (by omega)]
      simp only [Option.bind_some, Int.toNat_natCast, List.nil_append, List.take_length, List.drop_length, List.length_nil, Nat.zero_add]
      rw [if_pos (by omega)]
      try simp only [Option.bind_some]
      rw [if_pos (by omega)]
      try simp only [Option.bind_some, List.length_append, List.length_singleton, List.length_nil]
      rw [if_pos (by omega)]
      simp [put])
    (fun i hi K hK => ev_suc K fun k hk => by
      simp only [spec_l1Put.l0]
      rw [if_pos (by omega), if_pos (by omega), rd_nat l i hi, List.drop_eq_getElem_cons hi]
      simp only [put]
      by_cases h1 : l[i] < n
      · rw [if_pos h1, if_pos h1, w64s (by omega), hK k hk, List.take_succ_eq_append_getElem hi, List.append_assoc, List.singleton_append]
      · rw [if_neg h1, if_neg h1]
        by_cases h2 : l[i] = n
        · rw [if_pos h2, if_pos h2, ← List.drop_eq_getElem_cons hi, List.take_append_drop]
        · rw [if_neg h2, if_neg h2]
          simp only [Option.bind_some]
          rw [if_pos (by omega)]
          simp only [Option.bind_some, Int.toNat_natCast, List.nil_append, List.length_nil, Nat.zero_add]
          rw [if_pos (by rw [List.length_take]; omega)]
          try simp only [Option.bind_some]
          rw [if_pos (by rw [List.length_take]; omega)]
          try simp only [Option.bind_some]
          rw [if_pos (by simp only [List.length_append, List.length_take, List.length_drop, List.length_singleton]; omega), ← List.drop_eq_getElem_cons hi]
          simp) 0 (Nat.zero_le _)
  simpa [spec_l1Put.f] using h
/-- A list that has all numbers from 0 to n - 1. -/
def isMatchP (l : List Int) (n : Int) : Prop := (l.length : Int) = n ∧ (∀ x ∈ l, 0 ≤ x ∧ x < n) ∧ l.Nodup
instance (l : List Int) (n : Int) : Decidable (isMatchP l n) := by unfold isMatchP; exact inferInstance
def metOf (l : List Int) : List Int := l.foldl put []
theorem met_snoc (l : List Int) (x : Int) : metOf (l ++ [x]) = put (metOf l) x := by simp [metOf, List.foldl_append]
theorem met_facts (l : List Int) : ∀ i, i ≤ l.length → (metOf (l.take i)).Pairwise (· < ·) ∧ (∀ z, z ∈ metOf (l.take i) ↔ z ∈ l.take i) ∧ (metOf (l.take i)).length ≤ i ∧ ((metOf (l.take i)).length = i ↔ (l.take i).Nodup) := by
  intro i
  induction i with
  | zero => intro _; simp [metOf]
  | succ i ih =>
    intro hi
    have hlt : i < l.length := by omega
    obtain ⟨h1, h2, h3, h4⟩ := ih (by omega)
    rw [List.take_succ_eq_append_getElem hlt, met_snoc]
    refine ⟨put_sorted _ _ h1, fun z => ?_, ?_, ?_⟩
    · rw [put_mem, h2 z, List.mem_append, List.mem_singleton]
      exact Or.comm
    · rw [put_length _ _ h1]
      split <;> omega
    · rw [put_length _ _ h1, List.nodup_append]
      by_cases hm : l[i] ∈ metOf (l.take i)
      · rw [if_pos hm]
        constructor
        · intro h; omega
        · rintro ⟨_, _, h⟩
          exact absurd rfl (h _ ((h2 _).1 hm) _ (List.mem_singleton.2 rfl))
      · rw [if_neg hm]
        constructor
        · intro h
          refine ⟨h4.1 (by omega), by simp, fun a ha b hb => ?_⟩
          rw [List.mem_singleton.1 hb]
          rintro rfl
          exact hm ((h2 _).2 ha)
        · rintro ⟨h, _, _⟩
          have := h4.2 h
          omega
theorem maMatch_ev (l : List Int) (hl : l.length ≤ 1048576) (n : Int) (hn : 0 ≤ n ∧ n ≤ 1048576) : ∃ K, ∀ k, K ≤ k → spec_maMatch.f k l n = some (decide (isMatchP l n ∧ 1 ≤ n ∧ n ≤ 7)) := by
  obtain ⟨f1, f2, f3, f4⟩ := met_facts l l.length (Nat.le_refl _)
  rw [List.take_length] at f1 f2 f3 f4
  obtain ⟨Ka, ha⟩ := l1All_ev 0 (n - 1) l hl
  have h := ev_loop (F := fun k i => spec_maMatch.l0 k l n (metOf (l.take i)) l (l.length : Int) (i : Int)) (n := l.length) (res := fun _ => decide (isMatchP l n ∧ 1 ≤ n ∧ n ≤ 7))
    (ev_suc Ka fun k hk => by
      simp only [spec_maMatch.l0]
      rw [if_neg (by omega), List.take_length, l1In_eq, w64 (by omega) (by omega), ha k hk]
      simp only [Option.bind_some]
      by_cases h1 : (l.length : Int) = n
      · rw [if_pos h1]
        by_cases h2 : ((metOf l).length : Int) = n
        · rw [if_pos h2]
          have hnd : l.Nodup := f4.1 (by omega)
          by_cases h3 : inr 1 7 n = true
          · rw [if_pos h3]
            have h3' := (inr_iff _ _ _).1 h3
            congr 1
            rw [Bool.eq_iff_iff, List.all_eq_true, decide_eq_true_eq]
            simp only [inr_iff]
            constructor
            · intro h4
              exact ⟨⟨h1, fun x hx => by have := h4 x hx; omega, hnd⟩, h3'⟩
            · rintro ⟨⟨_, h4, _⟩, _⟩ x hx
              have := h4 x hx
              omega
          · rw [if_neg h3, decide_eq_false (fun h4 => h3 ((inr_iff _ _ _).2 h4.2))]
        · rw [if_neg h2, decide_eq_false (fun h4 => h2 (by have := f4.2 h4.1.2.2; omega))]
      · rw [if_neg h1, decide_eq_false (fun h4 => h1 h4.1.1)])
    (fun i hi K hK => by
      obtain ⟨_, _, f5, _⟩ := met_facts l i (by omega)
      obtain ⟨K2, h2⟩ := l1Put_ev (metOf (l.take i)) (by omega) l[i]
      exact ev_suc (max K K2) fun k hk => by
        simp only [spec_maMatch.l0]
        rw [if_pos (by omega), if_pos (by omega), if_pos (by omega), rd_nat l i hi, h2 k (by omega)]
        simp only [Option.bind_some]
        rw [w64s (by omega), ← met_snoc, ← List.take_succ_eq_append_getElem hi]
        exact hK k (by omega)) 0 (Nat.zero_le _)
  simpa [spec_maMatch.f, metOf] using h
def seenOf (l : List Int) (n : Nat) : List Bool := (List.range n).map fun (j : Nat) => decide ((j : Int) ∈ l)
theorem seen_length (l : List Int) (n : Nat) : (seenOf l n).length = n := by simp [seenOf]
theorem seen_at (l : List Int) (n : Nat) (x : Int) (h0 : 0 ≤ x) (h1 : x < n) : rdOf false (seenOf l n) x = decide (x ∈ l) := by
  have hx : x.toNat < n := by omega
  simp only [rdOf, seenOf, List.getD_eq_getElem?_getD, List.getElem?_map]
  rw [List.getElem?_range hx]
  simp only [Option.map_some, Option.getD_some]
  rw [Int.toNat_of_nonneg h0]
theorem seen_set (l : List Int) (n : Nat) (x : Int) (h0 : 0 ≤ x) (h1 : x < n) : (seenOf l n).set x.toNat true = seenOf (l ++ [x]) n := by
  apply List.ext_getElem
  · simp [seenOf]
  · intro j hj hj2
    simp only [List.length_set, seen_length] at hj
    rw [List.getElem_set]
    simp only [seenOf, List.getElem_map, List.getElem_range, List.mem_append, List.mem_singleton]
    by_cases hx : x.toNat = j
    · rw [if_pos hx]
      have : (j : Int) = x := by omega
      simp [this]
    · rw [if_neg hx]
      have : ¬ (j : Int) = x := by omega
      simp [this]
theorem implIsMatch_ev (l : List Int) (hl : l.length ≤ 1048576) (n : Int) (hn : 0 ≤ n ∧ n ≤ 1048576) : ∃ K, ∀ k, K ≤ k → impl_isMatch.f k l n = some (decide (isMatchP l n)) := by
  obtain ⟨m, rfl⟩ := Int.eq_ofNat_of_zero_le hn.1
  by_cases hlen : (l.length : Int) = (m : Int)
  · have h := ev_loop (F := fun k i => impl_isMatch.l0 k (m : Int) (seenOf (l.take i) m) l (l.length : Int) (i : Int)) (n := l.length)
      (res := fun i => decide ((∀ x ∈ l.drop i, 0 ≤ x ∧ x < (m : Int)) ∧ (l.drop i).Nodup ∧ ∀ x ∈ l.drop i, x ∉ l.take i))
      (ev_suc 0 fun k _ => by
        simp only [impl_isMatch.l0]
        rw [if_neg (by omega), List.drop_length, decide_eq_true (by simp)])
      (fun i hi K hK => ev_suc K fun k hk => by
        simp only [impl_isMatch.l0]
        rw [if_pos (by omega), if_pos (by omega), if_pos (by omega), rd_nat l i hi, List.drop_eq_getElem_cons hi]
        by_cases h1 : l[i] < 0
        · rw [if_pos h1, decide_eq_false (fun h => by have := h.1 l[i] List.mem_cons_self; omega)]
        · rw [if_neg h1]
          by_cases h2 : l[i] ≥ (m : Int)
          · rw [if_pos h2, decide_eq_false (fun h => by have := h.1 l[i] List.mem_cons_self; omega)]
          · rw [if_neg h2, if_pos (by omega), if_pos (by rw [seen_length]; omega), seen_at _ _ _ (by omega) (by omega), seen_set _ _ _ (by omega) (by omega), w64s (by omega), ← List.take_succ_eq_append_getElem hi]
            by_cases h3 : l[i] ∈ l.take i
            · rw [if_pos (decide_eq_true h3), decide_eq_false (fun h => h.2.2 l[i] List.mem_cons_self h3)]
            · rw [if_neg (by simpa using h3), hK k hk]
              congr 1
              rw [decide_eq_decide, List.take_succ_eq_append_getElem hi]
              simp only [List.mem_cons, List.mem_append, List.mem_singleton, List.nodup_cons, List.not_mem_nil, or_false]
              constructor
              · rintro ⟨a1, a2, a3⟩
                refine ⟨?_, ⟨fun hm => (a3 _ hm) (.inr rfl), a2⟩, ?_⟩
                · rintro x (rfl | hx)
                  · omega
                  · exact a1 x hx
                · rintro x (rfl | hx)
                  · exact h3
                  · exact fun hm => a3 x hx (.inl hm)
              · rintro ⟨a1, ⟨a2, a3⟩, a4⟩
                refine ⟨fun x hx => a1 x (.inr hx), a3, fun x hx => ?_⟩
                rintro (hm | rfl)
                · exact a4 x (.inr hx) hm
                · exact a2 hx) 0 (Nat.zero_le _)
    obtain ⟨K, h⟩ := h
    refine ⟨K, fun k hk => ?_⟩
    have h2 := h k hk
    unfold impl_isMatch.f
    rw [if_pos hlen, if_pos (by omega), if_pos (by simp only [Int.toNat_natCast]; omega), Int.toNat_natCast]
    have e : seenOf (l.take 0) m = List.replicate m false := by
      apply List.ext_getElem <;> simp [seenOf]
    rw [e] at h2
    rw [show (0 : Int) = ((0 : Nat) : Int) from rfl, h2]
    congr 1
    rw [decide_eq_decide]
    simp [isMatchP, hlen]
  · refine ⟨0, fun k _ => ?_⟩
    unfold impl_isMatch.f
    rw [if_neg hlen, decide_eq_false (fun h => hlen h.1)]
/-- The trucks of the shovels, after the first trucks were looked at. -/
def swapTo (m : List Int) : Nat → List Int
  | 0 => List.replicate m.length 0
  | i + 1 => (swapTo m i).set (rd m (i : Int)).toNat (i : Int)
theorem swapTo_length (m : List Int) : ∀ i, (swapTo m i).length = m.length := by
  intro i
  induction i with
  | zero => simp [swapTo]
  | succ i ih => simp [swapTo, ih]
theorem swap_ev (m : List Int) (hl : m.length ≤ 1048576) (hp : isMatchP m (m.length : Int)) : (∃ K, ∀ k, K ≤ k → spec_maSwap.f k m = some (swapTo m m.length)) ∧ ∃ K, ∀ k, K ≤ k → impl_swapSides.f k m = some (swapTo m m.length) := by
  have hr : ∀ i, i < m.length → 0 ≤ rd m (i : Int) ∧ rd m (i : Int) < (m.length : Int) := fun i hi => by
    rw [rd_nat m i hi]
    exact hp.2.1 _ (List.getElem_mem hi)
  have h1 := ev_loop (F := fun k i => spec_maSwap.l0 k (swapTo m i) m (m.length : Int) (i : Int)) (n := m.length) (res := fun _ => swapTo m m.length)
    (ev_suc 0 fun k _ => by simp only [spec_maSwap.l0]; rw [if_neg (by omega)])
    (fun i hi K hK => ev_suc K fun k hk => by
      have h2 := hr i hi
      have h3 := swapTo_length m i
      simp only [spec_maSwap.l0]
      rw [if_pos (by omega), if_pos (by omega), if_pos (by omega), if_pos (by omega), if_pos (by omega), w64s (by omega)]
      exact hK k hk) 0 (Nat.zero_le _)
  have h2 := ev_loop (F := fun k i => impl_swapSides.l0 k (swapTo m i) m (m.length : Int) (i : Int)) (n := m.length) (res := fun _ => swapTo m m.length)
    (ev_suc 0 fun k _ => by simp only [impl_swapSides.l0]; rw [if_neg (by omega)])
    (fun i hi K hK => ev_suc K fun k hk => by
      have h2 := hr i hi
      have h3 := swapTo_length m i
      simp only [impl_swapSides.l0]
      rw [if_pos (by omega), if_pos (by omega), if_pos (by omega), if_pos (by omega), if_pos (by omega), w64s (by omega)]
      exact hK k hk) 0 (Nat.zero_le _)
  constructor
  · obtain ⟨K, h⟩ := h1
    refine ⟨K, fun k hk => ?_⟩
    unfold spec_maSwap.f
    rw [if_pos (by omega), if_pos (by omega), Int.toNat_natCast]
    exact h k hk
  · obtain ⟨K, h⟩ := h2
    refine ⟨K, fun k hk => ?_⟩
    unfold impl_swapSides.f
    rw [if_pos (by omega), if_pos (by omega), Int.toNat_natCast]
    exact h k hk
def prefsOk (l : List (List Int)) : Bool := (l.all fun x => decide (isMatchP x (l.length : Int))) && inr 1 7 (l.length : Int)
theorem prefsOk_iff (l : List (List Int)) : prefsOk l = true ↔ (∀ x ∈ l, isMatchP x (l.length : Int)) ∧ 1 ≤ l.length ∧ l.length ≤ 7 := by
  simp only [prefsOk, Bool.and_eq_true, List.all_eq_true, decide_eq_true_eq, inr_iff]
  constructor
  · rintro ⟨h1, h2, h3⟩
    exact ⟨h1, by omega, by omega⟩
  · rintro ⟨h1, h2, h3⟩
    exact ⟨h1, by omega, by omega⟩
theorem maPreferences_ev (l : List (List Int)) (hl : l.length ≤ 1048576) (hx : ∀ x ∈ l, x.length ≤ 1048576) : ∃ K, ∀ k, K ≤ k → spec_maPreferences.f k l = some (prefsOk l) := by
  have h := ev_loop (F := fun k i => spec_maPreferences.l0 k l l (l.length : Int) (i : Int)) (n := l.length) (res := fun i => ((l.drop i).all fun x => decide (isMatchP x (l.length : Int))) && inr 1 7 (l.length : Int))
    (ev_suc 0 fun k _ => by
      simp only [spec_maPreferences.l0]
      rw [if_neg (by omega), l1In_eq, List.drop_of_length_le (Nat.le_refl _)]
      rfl)
    (fun i hi K hK => by
      obtain ⟨K2, h2⟩ := maMatch_ev l[i] (hx _ (List.getElem_mem hi)) (l.length : Int) (by omega)
      exact ev_suc (max K K2) fun k hk => by
        simp only [spec_maPreferences.l0]
        rw [if_pos (by omega), if_pos (by omega), if_pos (by omega), rdLL_nat l i hi, h2 k (by omega), List.drop_eq_getElem_cons hi, List.all_cons]
        simp only [Option.bind_some]
        by_cases h3 : isMatchP l[i] (l.length : Int)
        · by_cases h4 : 1 ≤ (l.length : Int) ∧ (l.length : Int) ≤ 7
          · rw [if_pos (decide_eq_true ⟨h3, h4⟩), decide_eq_true h3, Bool.true_and, w64s (by omega)]
            exact hK k (by omega)
          · rw [if_neg (by simp only [decide_eq_true_eq]; exact fun h => h4 h.2), (inr_false _ _ _).2 h4, Bool.and_false]
        · rw [if_neg (by simp only [decide_eq_true_eq]; exact fun h => h3 h.1), decide_eq_false h3, Bool.false_and, Bool.false_and]) 0 (Nat.zero_le _)
  exact h
theorem implArePreferences_ev (l : List (List Int)) (hl : l.length ≤ 1048576) (hx : ∀ x ∈ l, x.length ≤ 1048576) : ∃ K, ∀ k, K ≤ k → impl_ArePreferences.f k l = some (prefsOk l) := by
  have h := ev_loop (F := fun k i => impl_ArePreferences.l0 k l l (l.length : Int) (i : Int)) (n := l.length) (res := fun i => (l.drop i).all fun x => decide (isMatchP x (l.length : Int)))
    (ev_suc 0 fun k _ => by
      simp only [impl_ArePreferences.l0]
      rw [if_neg (by omega), List.drop_of_length_le (Nat.le_refl _)]
      rfl)
    (fun i hi K hK => by
      obtain ⟨K2, h2⟩ := implIsMatch_ev l[i] (hx _ (List.getElem_mem hi)) (l.length : Int) (by omega)
      exact ev_suc (max K K2) fun k hk => by
        simp only [impl_ArePreferences.l0]
        rw [if_pos (by omega), if_pos (by omega), if_pos (by omega), rdLL_nat l i hi, h2 k (by omega), List.drop_eq_getElem_cons hi, List.all_cons]
        simp only [Option.bind_some]
        by_cases h3 : isMatchP l[i] (l.length : Int)
        · rw [if_pos (decide_eq_true h3), decide_eq_true h3, Bool.true_and, w64s (by omega)]
          exact hK k (by omega)
        · rw [if_neg (by simp only [decide_eq_true_eq]; exact h3), decide_eq_false h3, Bool.false_and]) 0 (Nat.zero_le _)
  obtain ⟨K, h⟩ := h
  refine ev_suc K fun k hk => ?_
  have hk2 := h k hk
  unfold impl_ArePreferences.f prefsOk
  by_cases h1 : (l.length : Int) < 1
  · rw [if_pos h1, (inr_false _ _ _).2 (by omega), Bool.and_false]
    simp only [impl_ArePreferences.j0]
    rw [if_pos trivial]
  · rw [if_neg h1]
    simp only [impl_ArePreferences.j0]
    by_cases h2 : (l.length : Int) > 7
    · rw [if_pos (by simpa using h2), (inr_false _ _ _).2 (by omega), Bool.and_false]
    · rw [if_neg (by simpa using h2), (inr_iff _ _ _).2 (by omega), Bool.and_true]
      exact hk2
theorem l1Has_ev (l : List Int) (hl : l.length ≤ 1048576) (a : Int) : ∃ K, ∀ k, K ≤ k → spec_l1Has.f k l a = some (decide (a ∈ l)) := by
  have h := ev_loop (F := fun k i => spec_l1Has.l0 k a l (l.length : Int) (i : Int)) (n := l.length) (res := fun i => decide (a ∈ l.drop i))
    (ev_suc 0 fun k _ => by
      simp only [spec_l1Has.l0]
      rw [if_neg (by omega), List.drop_of_length_le (Nat.le_refl _)]
      rfl)
    (fun i hi K hK => ev_suc K fun k hk => by
      simp only [spec_l1Has.l0]
      rw [if_pos (by omega), if_pos (by omega), if_pos (by omega), rd_nat l i hi, List.drop_eq_getElem_cons hi]
      by_cases h1 : l[i] = a
      · rw [if_pos h1, h1]; simp
      · rw [if_neg h1, w64s (by omega), hK k hk]
        have h2 : ¬ a = l[i] := fun h => h1 h.symm
        exact congrArg some (decide_eq_decide.2 (by rw [List.mem_cons]; exact ⟨.inr, fun h => h.resolve_left h2⟩))) 0 (Nat.zero_le _)
  exact h
theorem slIndex_ev (l : List Int) (hl : l.length ≤ 1048576) (a : Int) : ∃ r : Int, (∃ K, ∀ k, K ≤ k → slices_Index_int_int.f k l a = some r) ∧ (0 ≤ r ↔ a ∈ l) ∧ r < l.length := by
  have key : ∀ d i, i + d = l.length → ∃ r : Int, (∃ K, ∀ k, K ≤ k → slices_Index_int_int.l0 k l a (l.length : Int) (i : Int) = some r) ∧ (0 ≤ r ↔ a ∈ l.drop i) ∧ (r < l.length) := by
    intro d
    induction d with
    | zero =>
      intro i hi
      refine ⟨-1, ev_suc 0 fun k _ => ?_, ?_, by omega⟩
      · simp only [slices_Index_int_int.l0]
        rw [if_neg (by omega)]
      · rw [List.drop_of_length_le (by omega)]; simp
    | succ d ih =>
      intro i hi
      have hlt : i < l.length := by omega
      by_cases h1 : a = l[i]
      · refine ⟨(i : Int), ev_suc 0 fun k _ => ?_, ?_, by omega⟩
        · simp only [slices_Index_int_int.l0]
          rw [if_pos (by omega), if_pos (by omega), if_pos (by omega), rd_nat l i hlt, if_pos h1]
        · rw [List.drop_eq_getElem_cons hlt, ← h1]
          simp
      · obtain ⟨r, ⟨K, hK⟩, h2, h3⟩ := ih (i + 1) (by omega)
        refine ⟨r, ev_suc K fun k hk => ?_, ?_, h3⟩
        · simp only [slices_Index_int_int.l0]
          rw [if_pos (by omega), if_pos (by omega), if_pos (by omega), rd_nat l i hlt, if_neg h1, w64s (by omega)]
          exact hK k hk
        · rw [h2, List.drop_eq_getElem_cons hlt, List.mem_cons]
          simp [h1]
  obtain ⟨r, h1, h2, h3⟩ := key l.length 0 (by omega)
  exact ⟨r, h1, by simpa using h2, h3⟩
/-- Both find the place of a number that is there. -/
theorem rank_both (l : List Int) (hl : l.length ≤ 1048576) (a : Int) (ha : a ∈ l) : ∃ r : Int, (∃ K, ∀ k, K ≤ k → spec_maRank.f k l a = some r) ∧ (∃ K, ∀ k, K ≤ k → slices_Index_int_int.f k l a = some r) ∧ 0 ≤ r ∧ r < l.length := by
  have key : ∀ d i, i + d = l.length → a ∈ l.drop i → ∃ r : Int, (∃ K, ∀ k, K ≤ k → spec_maRank.l0 k l a (i : Int) = some r) ∧ (∃ K, ∀ k, K ≤ k → slices_Index_int_int.l0 k l a (l.length : Int) (i : Int) = some r) ∧ 0 ≤ r ∧ r < l.length := by
    intro d
    induction d with
    | zero =>
      intro i hi hm
      rw [List.drop_of_length_le (by omega)] at hm
      simp at hm
    | succ d ih =>
      intro i hi hm
      have hlt : i < l.length := by omega
      by_cases h1 : l[i] = a
      · refine ⟨(i : Int), ev_suc 0 fun k _ => ?_, ev_suc 0 fun k _ => ?_, by omega, by omega⟩
        · simp only [spec_maRank.l0]
          rw [if_pos (by omega), if_pos (by omega), rd_nat l i hlt, if_pos h1]
        · simp only [slices_Index_int_int.l0]
          rw [if_pos (by omega), if_pos (by omega), if_pos (by omega), rd_nat l i hlt, if_pos h1.symm]
      · rw [List.drop_eq_getElem_cons hlt] at hm
        have hm2 := (List.mem_cons.1 hm).resolve_left (fun h => h1 h.symm)
        obtain ⟨r, ⟨K1, h2⟩, ⟨K2, h3⟩, h4⟩ := ih (i + 1) (by omega) hm2
        refine ⟨r, ev_suc K1 fun k hk => ?_, ev_suc K2 fun k hk => ?_, h4⟩
        · simp only [spec_maRank.l0]
          rw [if_pos (by omega), if_pos (by omega), rd_nat l i hlt, if_neg h1, w64s (by omega)]
          exact h2 k hk
        · simp only [slices_Index_int_int.l0]
          rw [if_pos (by omega), if_pos (by omega), if_pos (by omega), rd_nat l i hlt, if_neg (fun h => h1 h.symm), w64s (by omega)]
          exact h3 k hk
  exact key l.length 0 (by omega) (by simpa using ha)
/-- As many different numbers as there are below n are all of them. -/
theorem pigeon : ∀ (n : Nat) (l : List Int), l.Nodup → (∀ x ∈ l, 0 ≤ x ∧ x < (n : Int)) → l.length ≤ n := by
  intro n
  induction n with
  | zero =>
    intro l _ h
    cases l with
    | nil => simp
    | cons x r => have := h x (List.mem_cons_self); omega
  | succ n ih =>
    intro l hn h
    have h2 := ih (l.erase (n : Int)) (hn.erase _) (fun x hx => by
      have h3 := (List.Nodup.mem_erase_iff hn).1 hx
      have h4 := h x h3.2
      have h5 := h3.1
      omega)
    by_cases hm : (n : Int) ∈ l
    · rw [List.length_erase_of_mem hm] at h2
      omega
    · rw [List.erase_of_not_mem hm] at h2
      omega
theorem match_all {l : List Int} {n : Nat} (h : isMatchP l (n : Int)) (j : Int) (h0 : 0 ≤ j) (h1 : j < (n : Int)) : j ∈ l := by
  obtain ⟨h2, h3, h4⟩ := h
  apply Classical.byContradiction
  intro hn
  have h5 := pigeon n (j :: l) (List.nodup_cons.2 ⟨hn, h4⟩) (fun x hx => by
    rcases List.mem_cons.1 hx with rfl | hx
    · exact ⟨h0, h1⟩
    · exact h3 x hx)
  simp only [List.length_cons] at h5
  omega
theorem swapTo_mem (m : List Int) : ∀ i, i ≤ m.length → ∀ z ∈ swapTo m i, 0 ≤ z ∧ z < (m.length : Int) := by
  intro i
  induction i with
  | zero =>
    intro _ z hz
    simp only [swapTo, List.mem_replicate] at hz
    omega
  | succ i ih =>
    intro hi z hz
    simp only [swapTo] at hz
    rcases List.mem_or_eq_of_mem_set hz with h | rfl
    · exact ih (by omega) z h
    · omega
/-- Both find the same pairs. -/
theorem blocking_both (a b : List (List Int)) (m : List Int) (n : Nat) (hn : n ≤ 7) (hal : a.length = n) (hbl : b.length = n) (hml : m.length = n) (ha : ∀ x ∈ a, isMatchP x (n : Int)) (hb : ∀ x ∈ b, isMatchP x (n : Int)) (hm : isMatchP m (n : Int)) : ∃ g : List (List Int), (∃ K, ∀ k, K ≤ k → spec_maBlocking.f k a b m = some g) ∧ (∃ K, ∀ k, K ≤ k → impl_blockingPairs.f k a b m = some g) ∧ g.length ≤ 49 ∧ ∀ x ∈ g, x.length ≤ 2 := by
  obtain ⟨⟨KS, hS⟩, ⟨KT, hT⟩⟩ := swap_ev m (by omega) (by rw [hml]; exact hm)
  have hsl := swapTo_length m m.length
  have hsm := swapTo_mem m m.length (Nat.le_refl _)
  generalize swapTo m m.length = s at *
  have key : ∀ d i, i + d = n → ∀ out : List (List Int), out.length ≤ 7 * i → (∀ x ∈ out, x.length ≤ 2) → ∃ g : List (List Int), (∃ K, ∀ k, K ≤ k → spec_maBlocking.l0 k a b m s out (a.length : Int) (i : Int) = some g) ∧ (∃ K, ∀ k, K ≤ k → impl_blockingPairs.l0 k a b m out s (a.length : Int) (i : Int) = some g) ∧ g.length ≤ 49 ∧ ∀ x ∈ g, x.length ≤ 2 := by
    intro d
    induction d with
    | zero =>
      intro i hi out ho hx
      refine ⟨out, ev_suc 0 fun k _ => ?_, ev_suc 0 fun k _ => ?_, by omega, hx⟩
      · simp only [spec_maBlocking.l0]; rw [if_neg (by omega)]
      · simp only [impl_blockingPairs.l0]; rw [if_neg (by omega)]
    | succ d ih =>
      intro i hi out ho hxo
      have hia : i < a.length := by omega
      have him : i < m.length := by omega
      have hai := ha _ (List.getElem_mem hia)
      have hmi := hm.2.1 _ (List.getElem_mem him)
      have inner : ∀ e j, j + e = n → ∀ out : List (List Int), out.length ≤ 7 * i + j → (∀ x ∈ out, x.length ≤ 2) → ∃ g : List (List Int), (∃ K, ∀ k, K ≤ k → spec_maBlocking.l1 k a b m s out (i : Int) (a.length : Int) (i : Int) (b.length : Int) (j : Int) = some g) ∧ (∃ K, ∀ k, K ≤ k → impl_blockingPairs.l1 k a b m out s (i : Int) (a.length : Int) (i : Int) (b.length : Int) (j : Int) = some g) ∧ g.length ≤ 49 ∧ ∀ x ∈ g, x.length ≤ 2 := by
        intro e
        induction e with
        | zero =>
          intro j hj out ho hx
          obtain ⟨g, ⟨K1, h1⟩, ⟨K2, h2⟩, h3⟩ := ih (i + 1) (by omega) out (by omega) hx
          refine ⟨g, ev_suc K1 fun k hk => ?_, ev_suc K2 fun k hk => ?_, h3⟩
          · simp only [spec_maBlocking.l1]
            rw [if_neg (by omega), w64s (by omega)]
            exact h1 k hk
          · simp only [impl_blockingPairs.l1]
            rw [if_neg (by omega), w64s (by omega)]
            exact h2 k hk
        | succ e ihe =>
          intro j hj out ho hx
          have hjb : j < b.length := by omega
          have hjs : j < s.length := by omega
          have hbj := hb _ (List.getElem_mem hjb)
          have hsj := hsm _ (List.getElem_mem hjs)
          obtain ⟨r1, ⟨A1, e1⟩, ⟨B1, f1⟩, g1⟩ := rank_both a[i] (by have := hai.1; omega) (j : Int) (match_all hai _ (by omega) (by omega))
          obtain ⟨r2, ⟨A2, e2⟩, ⟨B2, f2⟩, g2⟩ := rank_both a[i] (by have := hai.1; omega) m[i] (match_all hai _ hmi.1 hmi.2)
          obtain ⟨r3, ⟨A3, e3⟩, ⟨B3, f3⟩, g3⟩ := rank_both b[j] (by have := hbj.1; omega) (i : Int) (match_all hbj _ (by omega) (by omega))
          obtain ⟨r4, ⟨A4, e4⟩, ⟨B4, f4⟩, g4⟩ := rank_both b[j] (by have := hbj.1; omega) s[j] (match_all hbj _ (by omega) (by omega))
          obtain ⟨g, ⟨K1, h1⟩, ⟨K2, h2⟩, h3⟩ := ihe (j + 1) (by omega) out (by omega) hx
          obtain ⟨g', ⟨K3, h4⟩, ⟨K4, h5⟩, h6⟩ := ihe (j + 1) (by omega) (out ++ [[(i : Int), (j : Int)]]) (by rw [List.length_append, List.length_singleton]; omega) (fun x hx2 => by
            rcases List.mem_append.1 hx2 with h | h
            · exact hx x h
            · rw [List.mem_singleton.1 h]; simp)
          by_cases c1 : r1 < r2
          · by_cases c2 : r3 < r4
            · refine ⟨g', ev_suc (K3 + A1 + A2 + A3 + A4) fun k hk => ?_, ev_suc (K4 + B1 + B2 + B3 + B4) fun k hk => ?_, h6⟩
              · simp only [spec_maBlocking.l1]
                rw [if_pos (by omega), if_pos (by omega), if_pos (by omega), rdLL_nat a i hia, e1 k (by omega)]
                simp only [Option.bind_some]
                rw [if_pos (by omega), rd_nat m i him, e2 k (by omega)]
                simp only [Option.bind_some]
                rw [if_pos c1, if_pos (by omega), if_pos (by omega), rdLL_nat b j hjb, e3 k (by omega)]
                simp only [Option.bind_some]
                rw [if_pos (by omega), rd_nat s j hjs, e4 k (by omega)]
                simp only [Option.bind_some]
                rw [if_pos c2, if_pos (by omega), w64s (by omega)]
                exact h4 k (by omega)
              · simp only [impl_blockingPairs.l1]
                rw [if_pos (by omega), if_pos (by omega), if_pos (by omega), rdLL_nat a i hia, f1 k (by omega)]
                simp only [Option.bind_some]
                rw [if_pos (by omega), rd_nat m i him, f2 k (by omega)]
                simp only [Option.bind_some]
                rw [if_pos c1, if_pos (by omega), if_pos (by omega), rdLL_nat b j hjb, f3 k (by omega)]
                simp only [Option.bind_some]
                rw [if_pos (by omega), rd_nat s j hjs, f4 k (by omega)]
                simp only [Option.bind_some]
                rw [if_pos c2, if_pos (by omega), w64s (by omega)]
                exact h5 k (by omega)
            · refine ⟨g, ev_suc (K1 + A1 + A2 + A3 + A4) fun k hk => ?_, ev_suc (K2 + B1 + B2 + B3 + B4) fun k hk => ?_, h3⟩
              · simp only [spec_maBlocking.l1]
                rw [if_pos (by omega), if_pos (by omega), if_pos (by omega), rdLL_nat a i hia, e1 k (by omega)]
                simp only [Option.bind_some]
                rw [if_pos (by omega), rd_nat m i him, e2 k (by omega)]
                simp only [Option.bind_some]
                rw [if_pos c1, if_pos (by omega), if_pos (by omega), rdLL_nat b j hjb, e3 k (by omega)]
                simp only [Option.bind_some]
                rw [if_pos (by omega), rd_nat s j hjs, e4 k (by omega)]
                simp only [Option.bind_some]
                rw [if_neg c2, w64s (by omega)]
                exact h1 k (by omega)
              · simp only [impl_blockingPairs.l1]
                rw [if_pos (by omega), if_pos (by omega), if_pos (by omega), rdLL_nat a i hia, f1 k (by omega)]
                simp only [Option.bind_some]
                rw [if_pos (by omega), rd_nat m i him, f2 k (by omega)]
                simp only [Option.bind_some]
                rw [if_pos c1, if_pos (by omega), if_pos (by omega), rdLL_nat b j hjb, f3 k (by omega)]
                simp only [Option.bind_some]
                rw [if_pos (by omega), rd_nat s j hjs, f4 k (by omega)]
                simp only [Option.bind_some]
                rw [if_neg c2, w64s (by omega)]
                exact h2 k (by omega)
          · refine ⟨g, ev_suc (K1 + A1 + A2) fun k hk => ?_, ev_suc (K2 + B1 + B2) fun k hk => ?_, h3⟩
            · simp only [spec_maBlocking.l1]
              rw [if_pos (by omega), if_pos (by omega), if_pos (by omega), rdLL_nat a i hia, e1 k (by omega)]
              simp only [Option.bind_some]
              rw [if_pos (by omega), rd_nat m i him, e2 k (by omega)]
              simp only [Option.bind_some]
              rw [if_neg c1, w64s (by omega)]
              exact h1 k (by omega)
            · simp only [impl_blockingPairs.l1]
              rw [if_pos (by omega), if_pos (by omega), if_pos (by omega), rdLL_nat a i hia, f1 k (by omega)]
              simp only [Option.bind_some]
              rw [if_pos (by omega), rd_nat m i him, f2 k (by omega)]
              simp only [Option.bind_some]
              rw [if_neg c1, w64s (by omega)]
              exact h2 k (by omega)
      obtain ⟨g, ⟨K1, h1⟩, ⟨K2, h2⟩, h3⟩ := inner n 0 (by omega) out (by omega) hxo
      refine ⟨g, ev_suc K1 fun k hk => ?_, ev_suc K2 fun k hk => ?_, h3⟩
      · simp only [spec_maBlocking.l0]
        rw [if_pos (by omega)]
        exact h1 k hk
      · simp only [impl_blockingPairs.l0]
        rw [if_pos (by omega)]
        exact h2 k hk
  obtain ⟨g, ⟨K1, h1⟩, ⟨K2, h2⟩, h3⟩ := key n 0 (by omega) [] (by simp) (by simp)
  refine ⟨g, ⟨KS + K1, fun k hk => ?_⟩, ⟨KT + K2, fun k hk => ?_⟩, h3⟩
  · unfold spec_maBlocking.f
    rw [hS k (by omega)]
    exact h1 k (by omega)
  · unfold impl_blockingPairs.f
    rw [hT k (by omega)]
    exact h2 k (by omega)
def sidesOk (a b : List (List Int)) : Bool := prefsOk a && (prefsOk b && decide (a.length = b.length))
theorem sides_both (a b : List (List Int)) (ha : a.length ≤ 1048576) (hxa : ∀ x ∈ a, x.length ≤ 1048576) (hb : b.length ≤ 1048576) (hxb : ∀ x ∈ b, x.length ≤ 1048576) : (∃ K, ∀ k, K ≤ k → spec_maBoth.f k a b = some (sidesOk a b)) ∧ ∃ K, ∀ k, K ≤ k → impl_areSides.f k a b = some (sidesOk a b) := by
  obtain ⟨K1, h1⟩ := maPreferences_ev a ha hxa
  obtain ⟨K2, h2⟩ := maPreferences_ev b hb hxb
  obtain ⟨K3, h3⟩ := implArePreferences_ev a ha hxa
  obtain ⟨K4, h4⟩ := implArePreferences_ev b hb hxb
  have he : ((a.length : Int) == (b.length : Int)) = decide (a.length = b.length) := by
    exact Bool.eq_iff_iff.2 (by simp only [beq_iff_eq, decide_eq_true_eq]; omega)
  constructor
  · refine ⟨K1 + K2, fun k hk => ?_⟩
    unfold spec_maBoth.f sidesOk
    rw [h1 k (by omega)]
    simp only [Option.bind_some]
    cases prefsOk a with
    | false => rw [if_neg (by simp), Bool.false_and]
    | true =>
      rw [if_pos rfl, h2 k (by omega)]
      simp only [Option.bind_some]
      cases prefsOk b with
      | false => rw [if_neg (by simp), Bool.false_and, Bool.and_false]
      | true => rw [if_pos rfl, he, Bool.true_and, Bool.true_and]
  · refine ⟨K3 + K4, fun k hk => ?_⟩
    unfold impl_areSides.f sidesOk
    rw [h3 k (by omega)]
    simp only [Option.bind_some]
    cases prefsOk a with
    | false => rw [if_neg (by simp), Bool.false_and]
    | true =>
      rw [if_pos rfl, h4 k (by omega)]
      simp only [Option.bind_some]
      cases prefsOk b with
      | false => rw [if_neg (by simp), Bool.false_and, Bool.and_false]
      | true => rw [if_pos rfl, he, Bool.true_and, Bool.true_and]
/-- All matches that begin with a list, in lexicographic order. -/
def allFrom (n : Nat) : Nat → List Int → List (List Int)
  | 0, p => [p]
  | d + 1, p => (List.range n).flatMap fun (j : Nat) => if (j : Int) ∈ p then [] else allFrom n d (p ++ [(j : Int)])
theorem flatMap_le {α β : Type} (g : α → List β) (B : Nat) : ∀ l : List α, (∀ x ∈ l, (g x).length ≤ B) → (l.flatMap g).length ≤ l.length * B := by
  intro l
  induction l with
  | nil => intro _; simp
  | cons x l ih =>
    intro h
    have h1 := h x (List.mem_cons_self)
    have h2 := ih (fun y hy => h y (List.mem_cons_of_mem _ hy))
    rw [List.flatMap_cons, List.length_append, List.length_cons, Nat.add_mul, Nat.one_mul]
    omega
theorem allFrom_len (n : Nat) (hn : n ≤ 7) : ∀ d p, (allFrom n d p).length ≤ 7 ^ d := by
  intro d
  induction d with
  | zero => intro p; simp [allFrom]
  | succ d ih =>
    intro p
    have h := flatMap_le (fun (j : Nat) => if (j : Int) ∈ p then [] else allFrom n d (p ++ [(j : Int)])) (7 ^ d) (List.range n) (fun j _ => by
      by_cases g : (j : Int) ∈ p
      · rw [if_pos g]; simp
      · rw [if_neg g]; exact ih _)
    rw [List.length_range] at h
    simp only [allFrom]
    rw [Nat.pow_succ, Nat.mul_comm]
    exact Nat.le_trans h (Nat.mul_le_mul_right _ hn)
structure Part (n : Nat) (p : List Int) : Prop where
  nd : p.Nodup
  lt : ∀ x ∈ p, 0 ≤ x ∧ x < (n : Int)
theorem Part.snoc {n : Nat} {p : List Int} (h : Part n p) {j : Nat} (hj : j < n) (hp : ¬ (j : Int) ∈ p) : Part n (p ++ [(j : Int)]) := by
  refine ⟨?_, fun x hx => ?_⟩
  · rw [List.nodup_append]
    refine ⟨h.nd, by simp, fun a ha b hb => ?_⟩
    rw [List.mem_singleton] at hb
    subst hb
    exact fun e => hp (e ▸ ha)
  · rcases List.mem_append.1 hx with hx | hx
    · exact h.lt x hx
    · rw [List.mem_singleton] at hx
      omega
theorem allFrom_mem (n : Nat) : ∀ d p, p.length + d = n → Part n p → ∀ m ∈ allFrom n d p, m.length = n ∧ Part n m := by
  intro d
  induction d with
  | zero =>
    intro p hp h m hm
    simp only [allFrom, List.mem_singleton] at hm
    subst hm
    exact ⟨by omega, h⟩
  | succ d ih =>
    intro p hp h m hm
    simp only [allFrom] at hm
    obtain ⟨j, hj, hm⟩ := List.mem_flatMap.1 hm
    by_cases g : (j : Int) ∈ p
    · rw [if_pos g] at hm; cases hm
    · rw [if_neg g] at hm
      exact ih _ (by rw [List.length_append, List.length_singleton]; omega) (h.snoc (List.mem_range.1 hj) g) m hm
theorem allFrom_all (n : Nat) : ∀ d p m, p.length + d = n → m.length = n → Part n m → m.take p.length = p → m ∈ allFrom n d p := by
  intro d
  induction d with
  | zero =>
    intro p m hp hl h ht
    rw [List.take_of_length_le (by omega)] at ht
    simp only [allFrom, List.mem_singleton]
    exact ht
  | succ d ih =>
    intro p m hp hl h ht
    have hlt : p.length < m.length := by omega
    have hx := h.lt m[p.length] (List.getElem_mem hlt)
    obtain ⟨j, hj⟩ := Int.eq_ofNat_of_zero_le hx.1
    simp only [allFrom]
    refine List.mem_flatMap.2 ⟨j, List.mem_range.2 (by omega), ?_⟩
    have htk : m.take (p.length + 1) = p ++ [(j : Int)] := by rw [List.take_succ_eq_append_getElem hlt, ht, ← hj]
    have hnp : ¬ (j : Int) ∈ p := by
      intro hm
      have h1 : (p ++ [(j : Int)]).Nodup := by rw [← htk]; exact (List.take_sublist _ _).nodup h.nd
      rw [List.nodup_append] at h1
      exact h1.2.2 _ hm _ (by simp) rfl
    rw [if_neg hnp]
    exact ih _ _ (by rw [List.length_append, List.length_singleton]; omega) hl h (by rw [List.length_append, List.length_singleton]; exact htk)
theorem nodup_len : ∀ (l p : List Int), l.Nodup → (∀ x ∈ l, x ∈ p) → l.length ≤ p.length := by
  intro l
  induction l with
  | nil => intro p _ _; simp
  | cons x l ih =>
    intro p h1 h2
    rw [List.nodup_cons] at h1
    have hx := h2 x (List.mem_cons_self)
    have h3 := ih (p.erase x) h1.2 (fun y hy => (List.mem_erase_of_ne (fun e : y = x => h1.1 (by rw [← e]; exact hy))).2 (h2 y (List.mem_cons_of_mem _ hy)))
    rw [List.length_erase_of_mem hx] at h3
    have := List.length_pos_of_mem hx
    rw [List.length_cons]
    omega
theorem part_more {n : Nat} {p : List Int} (h : Part n p) (hp : p.length < n) : ∃ j, j < n ∧ ¬ (j : Int) ∈ p := by
  apply Classical.byContradiction
  intro hn
  have hall : ∀ j, j < n → (j : Int) ∈ p := fun j hj => Classical.byContradiction fun g => hn ⟨j, hj, g⟩
  have hsub : ∀ x ∈ (List.range n).map (fun (j : Nat) => (j : Int)), x ∈ p := by
    intro x hx
    obtain ⟨j, hj, rfl⟩ := List.mem_map.1 hx
    exact hall j (List.mem_range.1 hj)
  have hnd : ((List.range n).map (fun (j : Nat) => (j : Int))).Nodup := by
    rw [List.nodup_iff_pairwise_ne, List.pairwise_map]
    exact List.Pairwise.imp (fun h e => h (by omega)) (List.nodup_iff_pairwise_ne.1 List.nodup_range)
  have hle := nodup_len _ _ hnd hsub
  simp at hle
  omega
theorem allFrom_some (n : Nat) : ∀ d p, p.length + d = n → Part n p → allFrom n d p ≠ [] := by
  intro d
  induction d with
  | zero => intro p _ _; simp [allFrom]
  | succ d ih =>
    intro p hp h
    obtain ⟨j, hj, hjp⟩ := part_more h (by omega)
    have h1 := ih (p ++ [(j : Int)]) (by rw [List.length_append, List.length_singleton]; omega) (h.snoc hj hjp)
    intro hn
    obtain ⟨m, hm⟩ := List.exists_mem_of_ne_nil _ h1
    have : m ∈ allFrom n (d + 1) p := by
      simp only [allFrom]
      exact List.mem_flatMap.2 ⟨j, List.mem_range.2 hj, by rw [if_neg hjp]; exact hm⟩
    rw [hn] at this
    cases this
theorem l1Own_eq (l : List Int) (hl : l.length ≤ 1048576) : spec_l1Own.f l = some l := by
  unfold spec_l1Own.f
  simp only [Option.bind_some, List.length_nil, List.nil_append]
  rw [if_pos (by omega)]
theorem maAll_ev (n : Nat) (hn : n ≤ 7) : ∀ d p, p.length + d = n → ∃ K, ∀ k, K ≤ k → spec_maAll.f k p (n : Int) = some (allFrom n d p) := by
  intro d
  induction d with
  | zero =>
    intro p hp
    refine ev_suc 0 fun k _ => ?_
    simp only [spec_maAll.f]
    rw [if_pos (by omega), l1Own_eq p (by omega)]
    rfl
  | succ d ih =>
    intro p hp
    have hp7 : 7 ^ d ≤ 823543 := Nat.le_trans (Nat.pow_le_pow_right (by omega) (show d ≤ 7 by omega)) (by decide)
    have hlen : ∀ i, i ≤ n → (((List.range n).take i).flatMap fun (j : Nat) => if (j : Int) ∈ p then [] else allFrom n d (p ++ [(j : Int)])).length ≤ 10000000 := by
      intro i hi
      have h := flatMap_le (fun (j : Nat) => if (j : Int) ∈ p then [] else allFrom n d (p ++ [(j : Int)])) 823543 ((List.range n).take i) (fun j _ => by
        by_cases g : (j : Int) ∈ p
        · rw [if_pos g]; simp
        · rw [if_neg g]; exact Nat.le_trans (allFrom_len n hn d _) hp7)
      rw [List.length_take, List.length_range] at h
      have := Nat.mul_le_mul_right 823543 (show min i n ≤ 7 by omega)
      omega
    have h := ev_loop (F := fun k i => spec_maAll.l0 k p (n : Int) (((List.range n).take i).flatMap fun (j : Nat) => if (j : Int) ∈ p then [] else allFrom n d (p ++ [(j : Int)])) (i : Int)) (n := n) (res := fun _ => allFrom n (d + 1) p)
      (ev_suc 0 fun k _ => by
        simp only [spec_maAll.l0]
        rw [if_neg (by omega), List.take_of_length_le (by simp)]
        rfl)
      (fun i hi K hK => by
        obtain ⟨K1, h1⟩ := l1Has_ev p (by omega) (i : Int)
        have htk : (List.range n).take (i + 1) = (List.range n).take i ++ [i] := by rw [List.take_succ_eq_append_getElem (by simpa using hi)]; simp
        rw [htk, List.flatMap_append, List.flatMap_cons, List.flatMap_nil, List.append_nil] at hK
        by_cases g : (i : Int) ∈ p
        · rw [if_pos g, List.append_nil] at hK
          refine ev_suc (K + K1) fun k hk => ?_
          simp only [spec_maAll.l0]
          rw [if_pos (by omega), h1 k (by omega)]
          simp only [Option.bind_some]
          rw [if_pos (decide_eq_true g), w64s (by omega)]
          exact hK k (by omega)
        · rw [if_neg g] at hK
          obtain ⟨K2, h2⟩ := ih (p ++ [(i : Int)]) (by rw [List.length_append, List.length_singleton]; omega)
          have l1 := hlen i (by omega)
          have l2 := Nat.le_trans (allFrom_len n hn d (p ++ [(i : Int)])) hp7
          refine ev_suc (K + K1 + K2) fun k hk => ?_
          simp only [spec_maAll.l0]
          rw [if_pos (by omega), h1 k (by omega)]
          simp only [Option.bind_some]
          rw [if_neg (by simpa using g), l1Own_eq p (by omega)]
          simp only [Option.bind_some]
          rw [if_pos (by omega), h2 k (by omega)]
          simp only [Option.bind_some]
          rw [if_pos (by omega), w64s (by omega)]
          exact hK k (by omega)) 0 (Nat.zero_le _)
    obtain ⟨K, h⟩ := h
    refine ev_suc K fun k hk => ?_
    simp only [spec_maAll.f]
    rw [if_neg (by omega)]
    have := h k hk
    simpa using this
def foldO {σ α : Type} (step : σ → α → Option σ) : σ → List α → Option σ
  | s, [] => some s
  | s, a :: l => (step s a).bind fun s' => foldO step s' l
theorem foldO_append {σ α : Type} (step : σ → α → Option σ) : ∀ (l l2 : List α) (s : σ), foldO step s (l ++ l2) = (foldO step s l).bind fun s' => foldO step s' l2 := by
  intro l
  induction l with
  | nil => intro l2 s; rfl
  | cons a l ih =>
    intro l2 s
    simp only [List.cons_append, foldO]
    cases step s a with
    | none => rfl
    | some s1 => exact ih l2 s1
/-- The filling calls the function for all matches, in their order. -/
theorem fill_all {σ : Type} (step : σ → List Int → Option σ) (n : Nat) : ∀ (d : Nat) (M : List Int) (U : List Bool) (p : List Int), M.length = n → U.length = n → p.length + d = n → M.take p.length = p → (∀ j, j < n → U.getD j false = decide ((j : Int) ∈ p)) →
    ∃ M' : List Int, M'.length = n ∧ M'.take p.length = p ∧ ∀ s, fillF step n d M U s = (foldO step s (allFrom n d p)).bind fun s' => some (M', U, s') := by
  intro d
  induction d with
  | zero =>
    intro M U p hM hU hp ht hu
    have hMp : M = p := by rw [← ht, List.take_of_length_le (by omega)]
    refine ⟨M, hM, ht, fun s => ?_⟩
    simp only [fillF, allFrom, foldO]
    rw [hMp]
    cases step s p <;> rfl
  | succ d ih =>
    intro M U p hM hU hp ht hu
    have key : ∀ e, e ≤ n → ∀ M1 : List Int, M1.length = n → M1.take p.length = p → ∃ M' : List Int, M'.length = n ∧ M'.take p.length = p ∧ ∀ s, fillK (fillF step n d) p.length n e M1 U s = (foldO step s (((List.range n).drop (n - e)).flatMap fun (j : Nat) => if (j : Int) ∈ p then [] else allFrom n d (p ++ [(j : Int)]))).bind fun s' => some (M', U, s') := by
      intro e
      induction e with
      | zero =>
        intro _ M1 h1 h2
        refine ⟨M1, h1, h2, fun s => ?_⟩
        rw [List.drop_of_length_le (by simp)]
        rfl
      | succ e ihe =>
        intro he M1 h1 h2
        have hlt : n - (e + 1) < (List.range n).length := by simp; omega
        rw [List.drop_eq_getElem_cons hlt, List.flatMap_cons, List.getElem_range, show n - (e + 1) + 1 = n - e from by omega]
        obtain ⟨kk, hkk⟩ : ∃ kk, kk = n - (e + 1) := ⟨_, rfl⟩
        have hu1 := hu kk (by omega)
        simp only [fillK]
        rw [← hkk]
        by_cases g : (kk : Int) ∈ p
        · rw [if_pos g, List.nil_append]
          have e1 : U.getD kk false = true := by rw [hu1]; exact decide_eq_true g
          simp only [e1, if_true]
          exact ihe (by omega) M1 h1 h2
        · rw [if_neg g]
          have e1 : U.getD kk false = false := by rw [hu1]; exact decide_eq_false g
          simp only [e1, Bool.false_eq_true, if_false]
          have hset : (M1.set p.length (kk : Int)).take (p ++ [(kk : Int)]).length = p ++ [(kk : Int)] := by
            rw [List.length_append, List.length_singleton, List.take_succ_eq_append_getElem (by rw [List.length_set]; omega), List.getElem_set_self, List.take_set_of_le (Nat.le_refl _), h2]
          obtain ⟨M2, m1, m2, m3⟩ := ih (M1.set p.length (kk : Int)) (U.set kk true) (p ++ [(kk : Int)]) (by rw [List.length_set]; exact h1) (by rw [List.length_set]; exact hU) (by rw [List.length_append, List.length_singleton]; omega) hset (fun j hj => by
            rw [List.getD_eq_getElem?_getD, List.getElem?_set]
            by_cases e1 : kk = j
            · subst e1
              rw [if_pos rfl, if_pos (by omega)]
              simp
            · rw [if_neg e1, ← List.getD_eq_getElem?_getD, hu j hj]
              refine decide_eq_decide.2 ?_
              rw [List.mem_append, List.mem_singleton]
              exact ⟨.inl, fun h => h.resolve_right (by omega)⟩)
          have m2' : M2.take p.length = p := by
            have h5 := congrArg (List.take p.length) m2
            rw [List.take_take, List.length_append, List.length_singleton, Nat.min_eq_left (by omega)] at h5
            rw [h5]
            simp
          have hback : (U.set kk true).set kk false = U := by
            rw [List.set_set]
            apply List.ext_getElem?
            intro i
            rw [List.getElem?_set]
            by_cases e2 : kk = i
            · subst e2
              have hkU : kk < U.length := by omega
              have h6 := e1
              rw [List.getD_eq_getElem?_getD, List.getElem?_eq_getElem hkU] at h6
              rw [if_pos rfl, if_pos hkU, List.getElem?_eq_getElem hkU]
              exact congrArg some h6.symm
            · rw [if_neg e2]
          obtain ⟨M3, n1, n2, n3⟩ := ihe (by omega) M2 m1 m2'
          refine ⟨M3, n1, n2, fun s => ?_⟩
          rw [m3 s, foldO_append]
          cases foldO step s (allFrom n d (p ++ [(kk : Int)])) with
          | none => rfl
          | some s1 =>
            simp only [Option.bind_some]
            rw [hback]
            exact n3 s1
    obtain ⟨M', h1, h2, h3⟩ := key n (Nat.le_refl _) M hM ht
    refine ⟨M', h1, h2, fun s => ?_⟩
    have h4 := h3 s
    rw [Nat.sub_self, List.drop_zero] at h4
    simp only [fillF, allFrom]
    rw [show n - (d + 1) = p.length from by omega]
    exact h4
theorem fill_start {σ : Type} (step : σ → List Int → Option σ) (n : Nat) (s : σ) : ∃ M' : List Int, fillF step n n (List.replicate n 0) (List.replicate n false) s = (foldO step s (allFrom n n [])).bind fun s' => some (M', List.replicate n false, s') := by
  obtain ⟨M', _, _, h⟩ := fill_all step n n (List.replicate n 0) (List.replicate n false) [] (by simp) (by simp) (by simp) (by simp) (fun j hj => by simp [List.getD_eq_getElem?_getD, List.getElem?_replicate, hj])
  exact ⟨M', h s⟩
/-- A fold whose steps come to their answers comes to its own. -/
theorem foldO_ev {σ α : Type} (step : Nat → σ → α → Option σ) (tt : σ → α → σ) (ok : σ → Prop) : ∀ (l : List α), (∀ a ∈ l, ∀ s, ok s → ok (tt s a) ∧ ∃ K, ∀ k, K ≤ k → step k s a = some (tt s a)) → ∀ s, ok s → ok (l.foldl tt s) ∧ ∃ K, ∀ k, K ≤ k → foldO (step k) s l = some (l.foldl tt s) := by
  intro l
  induction l with
  | nil => intro _ s hs; exact ⟨hs, 0, fun k _ => rfl⟩
  | cons a l ih =>
    intro h s hs
    obtain ⟨h1, K1, h2⟩ := h a (List.mem_cons_self) s hs
    obtain ⟨h3, K2, h4⟩ := ih (fun b hb => h b (List.mem_cons_of_mem _ hb)) (tt s a) h1
    refine ⟨h3, K1 + K2, fun k hk => ?_⟩
    simp only [foldO, List.foldl_cons]
    rw [h2 k (by omega)]
    exact h4 k (by omega)
theorem matchP_of {n : Nat} {m : List Int} (hl : m.length = n) (hp : Part n m) : isMatchP m (n : Int) := ⟨by omega, hp.lt, hp.nd⟩
/-- No pair blocks, as the reference tells it. -/
def NoBlock (a b : List (List Int)) (m : List Int) : Prop := ∃ g : List (List Int), (∃ K, ∀ k, K ≤ k → spec_maBlocking.f k a b m = some g) ∧ g.length = 0
open Classical in
/-- One more where no pair blocks. -/
noncomputable def cntOne (a b : List (List Int)) (s : Int) (m : List Int) : Int := if NoBlock a b m then s + 1 else s
theorem countStable_both (a b : List (List Int)) (hla : a.length ≤ 1048576) (hxa : ∀ x ∈ a, x.length ≤ 1048576) (hlb : b.length ≤ 1048576) (hxb : ∀ x ∈ b, x.length ≤ 1048576) : ∃ r : Int × Bool, (∃ K, ∀ k, K ≤ k → spec_CountStable.f k a b = some r) ∧ (∃ K, ∀ k, K ≤ k → impl_CountStable.f k a b = some r) ∧ r.2 = sidesOk a b ∧ (sidesOk a b = true → ∀ m, m.length = a.length → Part a.length m → NoBlock a b m → 1 ≤ r.1) := by
  obtain ⟨⟨K1, h1⟩, K2, h2⟩ := sides_both a b hla hxa hlb hxb
  by_cases hc : sidesOk a b = true
  · have hs := hc
    unfold sidesOk at hs
    simp only [Bool.and_eq_true, decide_eq_true_eq] at hs
    obtain ⟨p1, p2, p3⟩ := hs
    obtain ⟨a1, a2, a3⟩ := (prefsOk_iff a).1 p1
    obtain ⟨b1, b2, b3⟩ := (prefsOk_iff b).1 p2
    obtain ⟨n, hn⟩ : ∃ n, n = a.length := ⟨_, rfl⟩
    obtain ⟨all, hall⟩ : ∃ all, all = allFrom n n [] := ⟨_, rfl⟩
    have hP0 : Part n [] := ⟨by simp, fun x hx => by cases hx⟩
    have hmem : ∀ m ∈ all, m.length = n ∧ Part n m := by rw [hall]; exact allFrom_mem n n [] (by simp) hP0
    have hlenAll : all.length ≤ 823543 := by rw [hall]; exact Nat.le_trans (allFrom_len n (by omega) n []) (Nat.le_trans (Nat.pow_le_pow_right (by omega) (show n ≤ 7 by omega)) (by decide))
    have hone : ∀ m ∈ all, ∃ g : List (List Int), (∃ K, ∀ k, K ≤ k → spec_maBlocking.f k a b m = some g) ∧ (∃ K, ∀ k, K ≤ k → impl_blockingPairs.f k a b m = some g) ∧ (g.length = 0 ↔ NoBlock a b m) := by
      intro m hm
      obtain ⟨g, ⟨K3, h3⟩, h4, _⟩ := blocking_both a b m n (by omega) hn.symm (by omega) (hmem m hm).1 (fun x hx => by rw [hn]; exact a1 x hx) (fun x hx => by have := b1 x hx; rw [hn, p3]; exact this) (matchP_of (hmem m hm).1 (hmem m hm).2)
      refine ⟨g, ⟨K3, h3⟩, h4, fun h => ⟨g, ⟨K3, h3⟩, h⟩, fun h => ?_⟩
      obtain ⟨g2, ⟨K5, h5⟩, h6⟩ := h
      have e1 := h3 (K3 + K5) (by omega)
      rw [h5 (K3 + K5) (by omega)] at e1
      injection e1 with e1
      rw [← e1]; exact h6
    have hcb : ∀ (l : List (List Int)) (s : Int), 0 ≤ s → s ≤ l.foldl (cntOne a b) s ∧ l.foldl (cntOne a b) s ≤ s + (l.length : Int) ∧ ∀ m ∈ l, NoBlock a b m → s + 1 ≤ l.foldl (cntOne a b) s := by
      intro l
      induction l with
      | nil => intro s hs; exact ⟨by simp, by simp, fun m hm => by cases hm⟩
      | cons x l ih =>
        intro s hs
        have h8 : s ≤ cntOne a b s x ∧ cntOne a b s x ≤ s + 1 ∧ (NoBlock a b x → cntOne a b s x = s + 1) := by
          unfold cntOne
          by_cases g : NoBlock a b x
          · rw [if_pos g]; exact ⟨by omega, by omega, fun _ => rfl⟩
          · rw [if_neg g]; exact ⟨by omega, by omega, fun h => absurd h g⟩
        obtain ⟨i1, i2, i3⟩ := ih (cntOne a b s x) (by omega)
        rw [List.foldl_cons]
        refine ⟨by omega, by rw [List.length_cons]; omega, fun m hm hb => ?_⟩
        rcases List.mem_cons.1 hm with rfl | hm
        · have := h8.2.2 hb; omega
        · have := i3 m hm hb; omega
    obtain ⟨KA, hA⟩ := maAll_ev n (by omega) n [] (by simp)
    rw [← hall] at hA
    obtain ⟨c1, c2, c3⟩ := hcb all 0 (by omega)
    refine ⟨(all.foldl (cntOne a b) 0, true), ?_, ?_, hc.symm, fun _ m m1 m2 m3 => by have := c3 m (by rw [hall, hn]; exact allFrom_all a.length a.length [] m (by simp) m1 m2 (by simp)) m3; show 1 ≤ all.foldl (cntOne a b) 0; omega⟩
    · have h := ev_loop (F := fun k i => spec_CountStable.l0 k a b ((all.take i).foldl (cntOne a b) 0) all (all.length : Int) (i : Int)) (n := all.length) (res := fun _ => (all.foldl (cntOne a b) 0, true))
        (ev_suc 0 fun k _ => by simp only [spec_CountStable.l0]; rw [if_neg (by omega), List.take_of_length_le (Nat.le_refl _)])
        (fun i hi K hK => by
          obtain ⟨g, ⟨K3, h3⟩, _, h5⟩ := hone all[i] (List.getElem_mem hi)
          have hstep : (all.take (i + 1)).foldl (cntOne a b) 0 = cntOne a b ((all.take i).foldl (cntOne a b) 0) all[i] := by rw [List.take_succ_eq_append_getElem hi, List.foldl_append]; rfl
          rw [hstep] at hK
          obtain ⟨d1, d2, _⟩ := hcb (all.take i) 0 (by omega)
          rw [List.length_take] at d2
          refine ev_suc (K + K3) fun k hk => ?_
          simp only [spec_CountStable.l0]
          rw [if_pos (by omega), if_pos (by omega), if_pos (by omega), rdLL_nat all i hi, h3 k (by omega)]
          simp only [Option.bind_some]
          rw [w64s (by omega)]
          by_cases g0 : g.length = 0
          · have e : cntOne a b ((all.take i).foldl (cntOne a b) 0) all[i] = (all.take i).foldl (cntOne a b) 0 + 1 := by unfold cntOne; rw [if_pos (h5.1 g0)]
            rw [e] at hK
            rw [if_pos (by omega), w64 (by omega) (by omega)]
            exact hK k (by omega)
          · have e : cntOne a b ((all.take i).foldl (cntOne a b) 0) all[i] = (all.take i).foldl (cntOne a b) 0 := by unfold cntOne; rw [if_neg (fun h => g0 (h5.2 h))]
            rw [e] at hK
            rw [if_neg (by omega)]
            exact hK k (by omega)) 0 (Nat.zero_le _)
      obtain ⟨K, h⟩ := h
      refine ⟨K1 + KA + K, fun k hk => ?_⟩
      unfold spec_CountStable.f
      rw [h1 k (by omega)]
      simp only [Option.bind_some]
      rw [if_pos hc, ← hn, hA k (by omega)]
      simp only [Option.bind_some]
      have := h k (by omega)
      simpa using this
    · have hf : ∀ (l : List (List Int)), (∀ m ∈ l, m ∈ all) → ∀ s : Int, 0 ≤ s → s + (l.length : Int) ≤ 1000000 → ∃ K, ∀ k, K ≤ k → foldO (impl_CountStable.step k a b) s l = some (l.foldl (cntOne a b) s) := by
        intro l
        induction l with
        | nil => intro _ s _ _; exact ⟨0, fun k _ => rfl⟩
        | cons x l ih =>
          intro hl s hs hs2
          rw [List.length_cons] at hs2
          obtain ⟨g, _, ⟨K3, h3⟩, h5⟩ := hone x (hl x (List.mem_cons_self))
          have h8 : s ≤ cntOne a b s x ∧ cntOne a b s x ≤ s + 1 := by
            unfold cntOne
            by_cases g : NoBlock a b x
            · rw [if_pos g]; omega
            · rw [if_neg g]; omega
          obtain ⟨K4, h4⟩ := ih (fun m hm => hl m (List.mem_cons_of_mem _ hm)) (cntOne a b s x) (by omega) (by omega)
          refine ⟨K3 + K4, fun k hk => ?_⟩
          have hst : impl_CountStable.step k a b s x = some (cntOne a b s x) := by
            unfold impl_CountStable.step
            rw [h3 k (by omega)]
            simp only [Option.bind_some]
            unfold cntOne
            by_cases g0 : g.length = 0
            · rw [if_pos (by omega), if_pos (h5.1 g0), w64 (by omega) (by omega)]
            · rw [if_neg (by omega), if_neg (fun h => g0 (h5.2 h))]
          simp only [foldO, List.foldl_cons]
          rw [hst]
          exact h4 k (by omega)
      obtain ⟨K, hK⟩ := hf all (fun m hm => hm) 0 (by omega) (by omega)
      refine ⟨K2 + K, fun k hk => ?_⟩
      unfold impl_CountStable.f
      rw [h2 k (by omega)]
      simp only [Option.bind_some]
      rw [if_pos hc, if_pos hla]
      obtain ⟨M', h⟩ := fill_start (impl_CountStable.step k a b) a.length 0
      rw [h, ← hn, ← hall, hK k (by omega)]
      rfl
  · refine ⟨(0, false), ⟨K1, fun k hk => ?_⟩, ⟨K2, fun k hk => ?_⟩, (Bool.eq_false_iff.mpr hc).symm, fun h => absurd h hc⟩
    · unfold spec_CountStable.f
      rw [h1 k hk]
      simp only [Option.bind_some]
      rw [if_neg hc]
    · unfold impl_CountStable.f
      rw [h2 k hk]
      simp only [Option.bind_some]
      rw [if_neg hc]
theorem FnExactCountStable (a b : List (List Int)) (hl : a.length ≤ maxLen) (hw : ∀ x ∈ a, x.length ≤ maxLen ∧ ∀ z ∈ x, (Lit.int .i64 z).wf = true) (hl' : b.length ≤ maxLen) (hw' : ∀ x ∈ b, x.length ≤ maxLen ∧ ∀ z ∈ x, (Lit.int .i64 z).wf = true) : ∃ k, laws_FnExactCountStable.f k a b = some true := by
  obtain ⟨r, ⟨K0, h0⟩, hr⟩ := szIntSS_ev a 1048576 (by omega) hl (fun x hx => (hw x hx).1)
  by_cases hneg : r < 0
  · refine ⟨K0, ?_⟩
    simp only [laws_FnExactCountStable.f, h0 K0 (Nat.le_refl _), Option.bind_some, hneg, if_true]
  · have hb := hr (by omega)
    obtain ⟨r2, ⟨K00, h00⟩, hr2⟩ := szIntSS_ev b r (by omega) hl' (fun x hx => (hw' x hx).1)
    by_cases hneg2 : r2 < 0
    · refine ⟨K0 + K00, ?_⟩
      simp only [laws_FnExactCountStable.f, h0 (K0 + K00) (by omega), h00 (K0 + K00) (by omega), Option.bind_some, hneg, hneg2, if_true, if_false]
    · have hb2 := hr2 (by omega)
      have hl2 : a.length ≤ 1048576 := by omega
      have hx2 : ∀ x ∈ a, x.length ≤ 1048576 := fun x hx => by have := hb.2.2 x hx; omega
      have hl3 : b.length ≤ 1048576 := by omega
      have hx3 : ∀ x ∈ b, x.length ≤ 1048576 := fun x hx => by have := hb2.2.2 x hx; omega
      obtain ⟨K1, h1⟩ := toIntSS_ev a hl2 hx2
      obtain ⟨K2, h2⟩ := toIntSS_ev b hl3 hx3
      obtain ⟨K3, h3⟩ := eqIntSS_ev a hl2 hx2
      obtain ⟨K4, h4⟩ := eqIntSS_ev b hl3 hx3
      obtain ⟨⟨x, y⟩, ⟨K5, h5⟩, ⟨K6, h6⟩, _⟩ := countStable_both a b hl2 hx2 hl3 hx3
      refine ⟨K0 + K00 + K1 + K2 + K3 + K4 + K5 + K6 + 1, ?_⟩
      simp (disch := omega) only [laws_FnExactCountStable.f, h0, h00, h1, h2, h5, h6, Option.bind_some, hneg, hneg2, if_true, if_false, bne_self_eq_false]
      simp (disch := omega) only [laws_FnExactCountStable.j0, h1, h2, h3, h4, Option.bind_some, if_true, if_false, Bool.false_eq_true]

end Go.Proofs.Ytjipboafhakjfaa.Pure
