/- THE PURE SIDE OF FnExactArePreferences: the printed functions of the reference and of the program give the same results. Plain Lean: no memory and no Go. -/
import Derived.Test.YtjipboafhakjfaaPFnExactArePreferencesx3
import Derived.OpenShut
namespace Go.Proofs.Ytjipboafhakjfaa.Pure
open Go.RowKit Go.Proofs.Ytjipboafhakjfaa.PFnExactArePreferences Go.Proofs.YtjipboafhakjfaaW.PrintWords Go.Proofs.YtjipboafhakjfaaW.PrintLast Go.Proofs.YtjipboafhakjfaaW.PrintMore
set_option linter.unusedVariables false
set_option linter.unusedSimpArgs false

theorem w64 {x : Int} (h1 : -9223372036854775808 ≤ x) (h2 : x ≤ 9223372036854775807) : wrap64 x = x := by unfold wrap64; omega
theorem w64s {i : Nat} (h : i ≤ 9000000000000000000) : wrap64 ((i : Int) + 1) = ((i + 1 : Nat) : Int) := by rw [w64 (by omega) (by omega)]; omega
theorem rd_nat (l : List Int) (i : Nat) (h : i < l.length) : rd l (i : Int) = l[i] := by simp [rd, List.getD_eq_getElem?_getD, h]
theorem wf64 {x : Int} (h : (Lit.int .i64 x).wf = true) : -9223372036854775808 ≤ x ∧ x ≤ 9223372036854775807 := by
  have := bounds_i64 h
  omega
def inr (lo hi x : Int) : Bool := decide (lo ≤ x) && decide (x ≤ hi)
theorem inr_iff (lo hi x : Int) : inr lo hi x = true ↔ lo ≤ x ∧ x ≤ hi := by simp [inr]
theorem inr_false (lo hi x : Int) : inr lo hi x = false ↔ ¬ (lo ≤ x ∧ x ≤ hi) := by rw [← inr_iff, Bool.not_eq_true]
theorem mx_of_lt {a b : Int} (h : a < b) : mx a b = b := if_pos h
theorem mx_of_ge {a b : Int} (h : b ≤ a) : mx a b = a := if_neg (by omega)
theorem mx_spec (a b : Int) : a ≤ mx a b ∧ b ≤ mx a b ∧ (mx a b = a ∨ mx a b = b) := by unfold mx; split <;> omega
theorem l1In_eq (a b c : Int) : spec_l1In.f a b c = some (inr b c a) := by
  unfold spec_l1In.f inr
  by_cases h : a ≥ b
  · rw [if_pos h]; simp [show b ≤ a from h]
  · rw [if_neg h]; simp [show ¬ b ≤ a from h]
theorem l1All_l0 (lo hi : Int) (l : List Int) (hl : l.length ≤ 9000000000000000000) : ∀ (d k i : Nat), i + d = l.length → d < k → spec_l1All.l0 k lo hi l (l.length : Int) (i : Int) = some ((l.drop i).all (inr lo hi)) := by
  intro d
  induction d with
  | zero =>
    intro k i hi' hk
    obtain ⟨k, rfl⟩ : ∃ m, k = m + 1 := ⟨k - 1, by omega⟩
    simp only [spec_l1All.l0]
    rw [if_neg (by omega), List.drop_of_length_le (by omega)]; rfl
  | succ d ih =>
    intro k i hi' hk
    obtain ⟨k, rfl⟩ : ∃ m, k = m + 1 := ⟨k - 1, by omega⟩
    have hlt : i < l.length := by omega
    simp only [spec_l1All.l0]
    rw [if_pos (by omega), if_pos (by omega), if_pos (by omega), l1In_eq, List.drop_eq_getElem_cons hlt, List.all_cons, rd_nat l i hlt, w64s (by omega), ih k (i + 1) (by omega) (by omega)]
    simp only [Option.bind_some]
    by_cases h : inr lo hi l[i] = true
    · rw [if_pos h, h, Bool.true_and]
    · rw [if_neg h, Bool.eq_false_iff.mpr h, Bool.false_and]
theorem l1All_eq (lo hi : Int) (l : List Int) (hl : l.length ≤ 9000000000000000000) (k : Nat) (hk : l.length < k) : spec_l1All.f k l lo hi = some (l.all (inr lo hi)) := by
  unfold spec_l1All.f
  exact l1All_l0 lo hi l hl l.length k 0 (by omega) hk
theorem eqIntS_l0 (l : List Int) (hl : l.length ≤ 9000000000000000000) : ∀ (d k i : Nat), i + d = l.length → d < k → laws_eqIntS.l0 k l l (i : Int) = some true := by
  intro d
  induction d with
  | zero =>
    intro k i hi' hk
    obtain ⟨k, rfl⟩ : ∃ m, k = m + 1 := ⟨k - 1, by omega⟩
    simp only [laws_eqIntS.l0]
    rw [if_neg (by omega)]
  | succ d ih =>
    intro k i hi' hk
    obtain ⟨k, rfl⟩ : ∃ m, k = m + 1 := ⟨k - 1, by omega⟩
    simp only [laws_eqIntS.l0]
    rw [if_pos (by omega), if_pos (by omega), if_pos (by omega), if_pos trivial, w64s (by omega)]
    exact ih k (i + 1) (by omega) (by omega)
theorem eqIntS_self (l : List Int) (hl : l.length ≤ 9000000000000000000) (k : Nat) (hk : l.length < k) : laws_eqIntS.f k l l = some true := by
  unfold laws_eqIntS.f
  rw [if_pos rfl]
  exact eqIntS_l0 l hl l.length k 0 (by omega) hk
theorem ev_loop {β : Type} {F : Nat → Nat → Option β} {n : Nat} {res : Nat → β} (last : ∃ K, ∀ k, K ≤ k → F k n = some (res n)) (step : ∀ i, i < n → ∀ K, (∀ k, K ≤ k → F k (i + 1) = some (res (i + 1))) → ∃ K, ∀ k, K ≤ k → F k i = some (res i)) : ∀ i, i ≤ n → ∃ K, ∀ k, K ≤ k → F k i = some (res i) := by
  have key : ∀ d i, i + d = n → ∃ K, ∀ k, K ≤ k → F k i = some (res i) := by
    intro d
    induction d with
    | zero => intro i h; obtain rfl : i = n := by omega
              exact last
    | succ d ih =>
      intro i h
      obtain ⟨K, hK⟩ := ih (i + 1) (by omega)
      exact step i (by omega) K hK
  exact fun i h => key (n - i) i (by omega)
/-- One round more. -/
theorem ev_suc {β : Type} {g : Nat → Option β} {r : β} (K : Nat) (h : ∀ k, K ≤ k → g (k + 1) = some r) : ∃ K, ∀ k, K ≤ k → g k = some r :=
  ⟨K + 1, fun k hk => by obtain ⟨k, rfl⟩ : ∃ m, k = m + 1 := ⟨k - 1, by omega⟩; exact h k (by omega)⟩
theorem fill_step {α : Type} (l : List α) (z : α) (i : Nat) (h : i < l.length) : (l.take i ++ List.replicate (l.length - i) z).set i l[i] = l.take (i + 1) ++ List.replicate (l.length - (i + 1)) z := by
  have e : l.length - i = (l.length - (i + 1)) + 1 := by omega
  rw [List.set_append_right _ _ (by rw [List.length_take]; omega), List.length_take, Nat.min_eq_left (by omega), Nat.sub_self, e, List.replicate_succ, List.set_cons_zero, List.take_succ_eq_append_getElem h, List.append_assoc, List.singleton_append]
theorem fill_length {α : Type} (l : List α) (z : α) (i : Nat) (h : i ≤ l.length) : (l.take i ++ List.replicate (l.length - i) z).length = l.length := by
  rw [List.length_append, List.length_take, List.length_replicate]; omega
theorem fill_last {α : Type} (l : List α) (z : α) : l.take l.length ++ List.replicate (l.length - l.length) z = l := by simp
/-- What 'sz' leaves: where it isn't below 0, the row is no longer than that. -/
theorem szIntS_ev (l : List Int) (a : Int) (ha : 0 ≤ a ∧ a ≤ 1048576) (hl : l.length ≤ maxLen) : ∃ r, laws_szIntS.f l a = some r ∧ (0 ≤ r → r = a - l.length) ∧ (r < 0 → a < l.length) := by
  simp only [maxLen] at hl
  unfold laws_szIntS.f
  rw [w64 (by omega) (by omega)]
  by_cases h : a - (l.length : Int) < 0
  · exact ⟨-1, by rw [if_pos h], fun h2 => by omega, fun _ => by omega⟩
  · exact ⟨a - (l.length : Int), by rw [if_neg h], fun _ => rfl, fun h2 => by omega⟩
theorem rdLL_nat (l : List (List Int)) (i : Nat) (h : i < l.length) : rd_L1 l (i : Int) = l[i] := by simp [rd_L1, List.getD_eq_getElem?_getD, h]
theorem szIntSS_ev (l : List (List Int)) (a : Int) (ha : 0 ≤ a ∧ a ≤ 1048576) (hl : l.length ≤ maxLen) (hx : ∀ x ∈ l, x.length ≤ maxLen) : ∃ r, (∃ K, ∀ k, K ≤ k → laws_szIntSS.f k l a = some r) ∧ (0 ≤ r → r ≤ a ∧ (l.length : Int) ≤ a ∧ ∀ x ∈ l, (x.length : Int) ≤ a) := by
  simp only [maxLen] at hl
  by_cases h : a - (l.length : Int) < 0
  · refine ⟨-1, ⟨0, fun k _ => ?_⟩, fun h2 => by omega⟩
    unfold laws_szIntSS.f
    rw [w64 (by omega) (by omega), if_pos h]
  · have key : ∀ d i, i + d = l.length → ∀ b : Int, 0 ≤ b → b ≤ a → ∃ r, (∃ K, ∀ k, K ≤ k → laws_szIntSS.l0 k l b (i : Int) = some r) ∧ (0 ≤ r → r ≤ b ∧ ∀ x ∈ l.drop i, (x.length : Int) ≤ a) := by
      intro d
      induction d with
      | zero =>
        intro i hi b hb hba
        refine ⟨b, ev_suc 0 fun k _ => ?_, fun _ => ⟨by omega, fun x hx => ?_⟩⟩
        · simp only [laws_szIntSS.l0]
          rw [if_neg (by omega)]
        · rw [List.drop_of_length_le (by omega)] at hx
          simp at hx
      | succ d ih =>
        intro i hi b hb hba
        have hlt : i < l.length := by omega
        obtain ⟨r, h1, h2, h3⟩ := szIntS_ev l[i] b (by omega) (hx _ (List.getElem_mem hlt))
        by_cases h4 : r < 0
        · refine ⟨-1, ev_suc 0 fun k _ => ?_, fun h5 => by omega⟩
          simp only [laws_szIntSS.l0]
          rw [if_pos (by omega), if_pos (by omega), rdLL_nat l i hlt, h1]
          simp only [Option.bind_some]
          rw [if_pos h4]
        · have h5 := h2 (by omega)
          obtain ⟨r2, ⟨K, h6⟩, h7⟩ := ih (i + 1) (by omega) r (by omega) (by omega)
          refine ⟨r2, ev_suc K fun k hk => ?_, fun h8 => ⟨by have := (h7 h8).1; omega, fun x hx => ?_⟩⟩
          · simp only [laws_szIntSS.l0]
            rw [if_pos (by omega), if_pos (by omega), rdLL_nat l i hlt, h1]
            simp only [Option.bind_some]
            rw [if_neg h4, w64s (by omega)]
            exact h6 k hk
          · rw [List.drop_eq_getElem_cons hlt] at hx
            rcases List.mem_cons.1 hx with rfl | hx
            · omega
            · exact (h7 h8).2 x hx
    obtain ⟨r, ⟨K, h1⟩, h2⟩ := key l.length 0 (by omega) (a - l.length) (by omega) (by omega)
    refine ⟨r, ⟨K, fun k hk => ?_⟩, fun h3 => ⟨by have := (h2 h3).1; omega, by omega, by simpa using (h2 h3).2⟩⟩
    unfold laws_szIntSS.f
    rw [w64 (by omega) (by omega), if_neg h]
    exact h1 k hk
theorem toIntS_ev (l : List Int) (hl : l.length ≤ 1048576) : ∃ K, ∀ k, K ≤ k → laws_toIntS.f k l = some l := by
  have h := ev_loop (F := fun k i => laws_toIntS.l0 k l (l.take i ++ List.replicate (l.length - i) 0) (i : Int)) (n := l.length) (res := fun _ => l)
    (ev_suc 0 fun k _ => by simp only [laws_toIntS.l0]; rw [if_neg (by omega), fill_last])
    (fun i hi K hK => ev_suc K fun k hk => by
      simp only [laws_toIntS.l0]
      rw [if_pos (by omega), if_pos (by omega), if_pos (by rw [fill_length l 0 i (by omega)]; omega), Int.toNat_natCast, rd_nat l i hi, fill_step l 0 i hi, w64s (by omega)]
      exact hK k hk) 0 (Nat.zero_le _)
  obtain ⟨K, h⟩ := h
  refine ⟨K, fun k hk => ?_⟩
  unfold laws_toIntS.f
  rw [if_pos (by omega), if_pos (by omega), Int.toNat_natCast]
  simpa using h k hk
theorem toIntSS_ev (l : List (List Int)) (hl : l.length ≤ 1048576) (hx : ∀ x ∈ l, x.length ≤ 1048576) : ∃ K, ∀ k, K ≤ k → laws_toIntSS.f k l = some l := by
  have h := ev_loop (F := fun k i => laws_toIntSS.l0 k l (l.take i ++ List.replicate (l.length - i) []) (i : Int)) (n := l.length) (res := fun _ => l)
    (ev_suc 0 fun k _ => by simp only [laws_toIntSS.l0]; rw [if_neg (by omega), fill_last])
    (fun i hi K hK => by
      obtain ⟨K2, h2⟩ := toIntS_ev l[i] (hx _ (List.getElem_mem hi))
      exact ev_suc (max K K2) fun k hk => by
        simp only [laws_toIntSS.l0]
        rw [if_pos (by omega), if_pos (by omega), rdLL_nat l i hi, h2 k (by omega)]
        simp only [Option.bind_some]
        rw [if_pos (by rw [fill_length l [] i (by omega)]; omega), Int.toNat_natCast, fill_step l [] i hi, w64s (by omega)]
        exact hK k (by omega)) 0 (Nat.zero_le _)
  obtain ⟨K, h⟩ := h
  refine ⟨K, fun k hk => ?_⟩
  unfold laws_toIntSS.f
  rw [if_pos (by omega), if_pos (by omega), Int.toNat_natCast]
  simpa using h k hk
theorem eqIntS_ev (l : List Int) (hl : l.length ≤ 1048576) : ∃ K, ∀ k, K ≤ k → laws_eqIntS.f k l l = some true :=
  ⟨l.length + 1, fun k hk => eqIntS_self l (by omega) k (by omega)⟩
theorem eqIntSS_ev (l : List (List Int)) (hl : l.length ≤ 1048576) (hx : ∀ x ∈ l, x.length ≤ 1048576) : ∃ K, ∀ k, K ≤ k → laws_eqIntSS.f k l l = some true := by
  have h := ev_loop (F := fun k i => laws_eqIntSS.l0 k l l (i : Int)) (n := l.length) (res := fun _ => true)
    (ev_suc 0 fun k _ => by simp only [laws_eqIntSS.l0]; rw [if_neg (by omega)])
    (fun i hi K hK => by
      obtain ⟨K2, h2⟩ := eqIntS_ev l[i] (hx _ (List.getElem_mem hi))
      exact ev_suc (max K K2) fun k hk => by
        simp only [laws_eqIntSS.l0]
        rw [if_pos (by omega), if_pos (by omega), if_pos (by omega), rdLL_nat l i hi, h2 k (by omega)]
        simp only [Option.bind_some]
        rw [if_pos trivial, w64s (by omega)]
        exact hK k (by omega)) 0 (Nat.zero_le _)
  obtain ⟨K, h⟩ := h
  refine ⟨K, fun k hk => ?_⟩
  unfold laws_eqIntSS.f
  rw [if_pos rfl]
  exact h k hk
theorem l1All_ev (lo hi : Int) (l : List Int) (hl : l.length ≤ 1048576) : ∃ K, ∀ k, K ≤ k → spec_l1All.f k l lo hi = some (l.all (inr lo hi)) :=
  ⟨l.length + 1, fun k hk => l1All_eq lo hi l (by omega) k (by omega)⟩

/-- A number put into an increasing list, unless it is there. -/
def put : List Int → Int → List Int
  | [], n => [n]
  | x :: r, n => if x < n then x :: put r n else if x = n then x :: r else n :: x :: r
theorem put_mem (n z : Int) : ∀ l : List Int, z ∈ put l n ↔ z = n ∨ z ∈ l := by
  intro l
  induction l with
  | nil => simp [put]
  | cons x r ih =>
    simp only [put]
    split
    · rw [List.mem_cons, ih, List.mem_cons]
      constructor
      · rintro (h | h | h) <;> simp [h]
      · rintro (h | h | h) <;> simp [h]
    · split
      · rename_i h
        rw [List.mem_cons]
        constructor
        · intro h2; exact .inr h2
        · rintro (h2 | h2)
          · exact .inl (h2.trans h.symm)
          · exact h2
      · simp
theorem put_sorted (n : Int) : ∀ l : List Int, l.Pairwise (· < ·) → (put l n).Pairwise (· < ·) := by
  intro l
  induction l with
  | nil => intro _; simp [put]
  | cons x r ih =>
    intro h
    obtain ⟨h1, h2⟩ := List.pairwise_cons.1 h
    simp only [put]
    split
    · rename_i hx
      refine List.pairwise_cons.2 ⟨fun z hz => ?_, ih h2⟩
      rcases (put_mem n z r).1 hz with rfl | hz
      · exact hx
      · exact h1 z hz
    · split
      · exact h
      · refine List.pairwise_cons.2 ⟨fun z hz => ?_, h⟩
        rcases List.mem_cons.1 hz with rfl | hz
        · omega
        · have := h1 z hz
          omega
theorem put_length (n : Int) : ∀ l : List Int, l.Pairwise (· < ·) → (put l n).length = if n ∈ l then l.length else l.length + 1 := by
  intro l
  induction l with
  | nil => intro _; simp [put]
  | cons x r ih =>
    intro h
    obtain ⟨h1, h2⟩ := List.pairwise_cons.1 h
    simp only [put]
    split
    · rename_i hx
      rw [List.length_cons, ih h2, List.length_cons]
      have e : n ∈ x :: r ↔ n ∈ r := by
        rw [List.mem_cons]
        constructor
        · rintro (h | h)
          · omega
          · exact h
        · exact .inr
      by_cases hn : n ∈ r
      · rw [if_pos hn, if_pos (e.2 hn)]
      · rw [if_neg hn, if_neg (fun h => hn (e.1 h))]
    · split
      · rename_i hx
        rw [if_pos (by rw [← hx]; exact List.mem_cons_self)]
      · rw [if_neg (fun hn => by
          rcases List.mem_cons.1 hn with hn | hn
          · omega
          · have := h1 n hn
            omega)]
        rfl
theorem put_len_le (n : Int) (l : List Int) : (put l n).length ≤ l.length + 1 := by
  induction l with
  | nil => simp [put]
  | cons x r ih => simp only [put]; split <;> (try split) <;> simp <;> omega
theorem l1Put_ev (l : List Int) (hl : l.length ≤ 2097152) (n : Int) : ∃ K, ∀ k, K ≤ k → spec_l1Put.f k l n = some (put l n) := by
  have h := ev_loop (F := fun k i => spec_l1Put.l0 k l n (i : Int)) (n := l.length) (res := fun i => l.take i ++ put (l.drop i) n)
    (ev_suc 0 fun k _ => by
      simp only [spec_l1Put.l0]
      rw [if_neg (by omega)]
      simp only [Option.bind_some]
      rw [if_pos (by omega), if_pos (by omega)]
      simp only [Option.bind_some, Int.toNat_natCast, List.nil_append, List.take_length, List.drop_length, List.length_nil, Nat.zero_add]
      rw [if_pos (by omega)]
      try simp only [Option.bind_some]
      rw [if_pos (by omega)]
      try simp only [Option.bind_some, List.length_append, List.length_singleton, List.length_nil]
      rw [if_pos (by omega)]
      simp [put])
    (fun i hi K hK => ev_suc K fun k hk => by
      simp only [spec_l1Put.l0]
      rw [if_pos (by omega), if_pos (by omega), rd_nat l i hi, List.drop_eq_getElem_cons hi]
      simp only [put]
      by_cases h1 : l[i] < n
      · rw [if_pos h1, if_pos h1, w64s (by omega), hK k hk, List.take_succ_eq_append_getElem hi, List.append_assoc, List.singleton_append]
      · rw [if_neg h1, if_neg h1]
        by_cases h2 : l[i] = n
        · rw [if_pos h2, if_pos h2, ← List.drop_eq_getElem_cons hi, List.take_append_drop]
        · rw [if_neg h2, if_neg h2]
          simp only [Option.bind_some]
          rw [if_pos (by omega)]
          simp only [Option.bind_some, Int.toNat_natCast, List.nil_append, List.length_nil, Nat.zero_add]
          rw [if_pos (by rw [List.length_take]; omega)]
          try simp only [Option.bind_some]
          rw [if_pos (by rw [List.length_take]; omega)]
          try simp only [Option.bind_some]
          rw [if_pos (by simp only [List.length_append, List.length_take, List.length_drop, List.length_singleton]; omega), ← List.drop_eq_getElem_cons hi]
          simp) 0 (Nat.zero_le _)
  simpa [spec_l1Put.f] using h
/-- A list that has all numbers from 0 to n - 1. -/
def isMatchP (l : List Int) (n : Int) : Prop := (l.length : Int) = n ∧ (∀ x ∈ l, 0 ≤ x ∧ x < n) ∧ l.Nodup
instance (l : List Int) (n : Int) : Decidable (isMatchP l n) := by unfold isMatchP; exact inferInstance
def metOf (l : List Int) : List Int := l.foldl put []
theorem met_snoc (l : List Int) (x : Int) : metOf (l ++ [x]) = put (metOf l) x := by simp [metOf, List.foldl_append]
theorem met_facts (l : List Int) : ∀ i, i ≤ l.length → (metOf (l.take i)).Pairwise (· < ·) ∧ (∀ z, z ∈ metOf (l.take i) ↔ z ∈ l.take i) ∧ (metOf (l.take i)).length ≤ i ∧ ((metOf (l.take i)).length = i ↔ (l.take i).Nodup) := by
  intro i
  induction i with
  | zero => intro _; simp [metOf]
  | succ i ih =>
    intro hi
    have hlt : i < l.length := by omega
    obtain ⟨h1, h2, h3, h4⟩ := ih (by omega)
    rw [List.take_succ_eq_append_getElem hlt, met_snoc]
    refine ⟨put_sorted _ _ h1, fun z => ?_, ?_, ?_⟩
    · rw [put_mem, h2 z, List.mem_append, List.mem_singleton]
      exact Or.comm
    · rw [put_length _ _ h1]
      split <;> omega
    · rw [put_length _ _ h1, List.nodup_append]
      by_cases hm : l[i] ∈ metOf (l.take i)
      · rw [if_pos hm]
        constructor
        · intro h; omega
        · rintro ⟨_, _, h⟩
          exact absurd rfl (h _ ((h2 _).1 hm) _ (List.mem_singleton.2 rfl))
      · rw [if_neg hm]
        constructor
        · intro h
          refine ⟨h4.1 (by omega), by simp, fun a ha b hb => ?_⟩
          rw [List.mem_singleton.1 hb]
          rintro rfl
          exact hm ((h2 _).2 ha)
        · rintro ⟨h, _, _⟩
          have := h4.2 h
          omega
theorem maMatch_ev (l : List Int) (hl : l.length ≤ 1048576) (n : Int) (hn : 0 ≤ n ∧ n ≤ 1048576) : ∃ K, ∀ k, K ≤ k → spec_maMatch.f k l n = some (decide (isMatchP l n ∧ 1 ≤ n ∧ n ≤ 7)) := by
  obtain ⟨f1, f2, f3, f4⟩ := met_facts l l.length (Nat.le_refl _)
  rw [List.take_length] at f1 f2 f3 f4
  obtain ⟨Ka, ha⟩ := l1All_ev 0 (n - 1) l hl
  have h := ev_loop (F := fun k i => spec_maMatch.l0 k l n (metOf (l.take i)) l (l.length : Int) (i : Int)) (n := l.length) (res := fun _ => decide (isMatchP l n ∧ 1 ≤ n ∧ n ≤ 7))
    (ev_suc Ka fun k hk => by
      simp only [spec_maMatch.l0]
      rw [if_neg (by omega), List.take_length, l1In_eq, w64 (by omega) (by omega), ha k hk]
      simp only [Option.bind_some]
      by_cases h1 : (l.length : Int) = n
      · rw [if_pos h1]
        by_cases h2 : ((metOf l).length : Int) = n
        · rw [if_pos h2]
          have hnd : l.Nodup := f4.1 (by omega)
          by_cases h3 : inr 1 7 n = true
          · rw [if_pos h3]
            have h3' := (inr_iff _ _ _).1 h3
            congr 1
            rw [Bool.eq_iff_iff, List.all_eq_true, decide_eq_true_eq]
            simp only [inr_iff]
            constructor
            · intro h4
              exact ⟨⟨h1, fun x hx => by have := h4 x hx; omega, hnd⟩, h3'⟩
            · rintro ⟨⟨_, h4, _⟩, _⟩ x hx
              have := h4 x hx
              omega
          · rw [if_neg h3, decide_eq_false (fun h4 => h3 ((inr_iff _ _ _).2 h4.2))]
        · rw [if_neg h2, decide_eq_false (fun h4 => h2 (by have := f4.2 h4.1.2.2; omega))]
      · rw [if_neg h1, decide_eq_false (fun h4 => h1 h4.1.1)])
    (fun i hi K hK => by
      obtain ⟨_, _, f5, _⟩ := met_facts l i (by omega)
      obtain ⟨K2, h2⟩ := l1Put_ev (metOf (l.take i)) (by omega) l[i]
      exact ev_suc (max K K2) fun k hk => by
        simp only [spec_maMatch.l0]
        rw [if_pos (by omega), if_pos (by omega), if_pos (by omega), rd_nat l i hi, h2 k (by omega)]
        simp only [Option.bind_some]
        rw [w64s (by omega), ← met_snoc, ← List.take_succ_eq_append_getElem hi]
        exact hK k (by omega)) 0 (Nat.zero_le _)
  simpa [spec_maMatch.f, metOf] using h
def seenOf (l : List Int) (n : Nat) : List Bool := (List.range n).map fun (j : Nat) => decide ((j : Int) ∈ l)
theorem seen_length (l : List Int) (n : Nat) : (seenOf l n).length = n := by simp [seenOf]
theorem seen_at (l : List Int) (n : Nat) (x : Int) (h0 : 0 ≤ x) (h1 : x < n) : rdOf false (seenOf l n) x = decide (x ∈ l) := by
  have hx : x.toNat < n := by omega
  simp only [rdOf, seenOf, List.getD_eq_getElem?_getD, List.getElem?_map]
  rw [List.getElem?_range hx]
  simp only [Option.map_some, Option.getD_some]
  rw [Int.toNat_of_nonneg h0]
theorem seen_set (l : List Int) (n : Nat) (x : Int) (h0 : 0 ≤ x) (h1 : x < n) : (seenOf l n).set x.toNat true = seenOf (l ++ [x]) n := by
  apply List.ext_getElem
  · simp [seenOf]
  · intro j hj hj2
    simp only [List.length_set, seen_length] at hj
    rw [List.getElem_set]
    simp only [seenOf, List.getElem_map, List.getElem_range, List.mem_append, List.mem_singleton]
    by_cases hx : x.toNat = j
    · rw [if_pos hx]
      have : (j : Int) = x := by omega
      simp [this]
    · rw [if_neg hx]
      have : ¬ (j : Int) = x := by omega
      simp [this]
theorem implIsMatch_ev (l : List Int) (hl : l.length ≤ 1048576) (n : Int) (hn : 0 ≤ n ∧ n ≤ 1048576) : ∃ K, ∀ k, K ≤ k → impl_isMatch.f k l n = some (decide (isMatchP l n)) := by
  obtain ⟨m, rfl⟩ := Int.eq_ofNat_of_zero_le hn.1
  by_cases hlen : (l.length : Int) = (m : Int)
  · have h := ev_loop (F := fun k i => impl_isMatch.l0 k (m : Int) (seenOf (l.take i) m) l (l.length : Int) (i : Int)) (n := l.length)
      (res := fun i => decide ((∀ x ∈ l.drop i, 0 ≤ x ∧ x < (m : Int)) ∧ (l.drop i).Nodup ∧ ∀ x ∈ l.drop i, x ∉ l.take i))
      (ev_suc 0 fun k _ => by
        simp only [impl_isMatch.l0]
        rw [if_neg (by omega), List.drop_length, decide_eq_true (by simp)])
      (fun i hi K hK => ev_suc K fun k hk => by
        simp only [impl_isMatch.l0]
        rw [if_pos (by omega), if_pos (by omega), if_pos (by omega), rd_nat l i hi, List.drop_eq_getElem_cons hi]
        by_cases h1 : l[i] < 0
        · rw [if_pos h1, decide_eq_false (fun h => by have := h.1 l[i] List.mem_cons_self; omega)]
        · rw [if_neg h1]
          by_cases h2 : l[i] ≥ (m : Int)
          · rw [if_pos h2, decide_eq_false (fun h => by have := h.1 l[i] List.mem_cons_self; omega)]
          · rw [if_neg h2, if_pos (by omega), if_pos (by rw [seen_length]; omega), seen_at _ _ _ (by omega) (by omega), seen_set _ _ _ (by omega) (by omega), w64s (by omega), ← List.take_succ_eq_append_getElem hi]
            by_cases h3 : l[i] ∈ l.take i
            · rw [if_pos (decide_eq_true h3), decide_eq_false (fun h => h.2.2 l[i] List.mem_cons_self h3)]
            · rw [if_neg (by simpa using h3), hK k hk]
              congr 1
              rw [decide_eq_decide, List.take_succ_eq_append_getElem hi]
              simp only [List.mem_cons, List.mem_append, List.mem_singleton, List.nodup_cons, List.not_mem_nil, or_false]
              constructor
              · rintro ⟨a1, a2, a3⟩
                refine ⟨?_, ⟨fun hm => (a3 _ hm) (.inr rfl), a2⟩, ?_⟩
                · rintro x (rfl | hx)
                  · omega
                  · exact a1 x hx
                · rintro x (rfl | hx)
                  · exact h3
                  · exact fun hm => a3 x hx (.inl hm)
              · rintro ⟨a1, ⟨a2, a3⟩, a4⟩
                refine ⟨fun x hx => a1 x (.inr hx), a3, fun x hx => ?_⟩
                rintro (hm | rfl)
                · exact a4 x (.inr hx) hm
                · exact a2 hx) 0 (Nat.zero_le _)
    obtain ⟨K, h⟩ := h
    refine ⟨K, fun k hk => ?_⟩
    have h2 := h k hk
    unfold impl_isMatch.f
    rw [if_pos hlen, if_pos (by omega), if_pos (by simp only [Int.toNat_natCast]; omega), Int.toNat_natCast]
    have e : seenOf (l.take 0) m = List.replicate m false := by
      apply List.ext_getElem <;> simp [seenOf]
    rw [e] at h2
    rw [show (0 : Int) = ((0 : Nat) : Int) from rfl, h2]
    congr 1
    rw [decide_eq_decide]
    simp [isMatchP, hlen]
  · refine ⟨0, fun k _ => ?_⟩
    unfold impl_isMatch.f
    rw [if_neg hlen, decide_eq_false (fun h => hlen h.1)]
def prefsOk (l : List (List Int)) : Bool := (l.all fun x => decide (isMatchP x (l.length : Int))) && inr 1 7 (l.length : Int)
theorem prefsOk_iff (l : List (List Int)) : prefsOk l = true ↔ (∀ x ∈ l, isMatchP x (l.length : Int)) ∧ 1 ≤ l.length ∧ l.length ≤ 7 := by
  simp only [prefsOk, Bool.and_eq_true, List.all_eq_true, decide_eq_true_eq, inr_iff]
  constructor
  · rintro ⟨h1, h2, h3⟩
    exact ⟨h1, by omega, by omega⟩
  · rintro ⟨h1, h2, h3⟩
    exact ⟨h1, by omega, by omega⟩
theorem maPreferences_ev (l : List (List Int)) (hl : l.length ≤ 1048576) (hx : ∀ x ∈ l, x.length ≤ 1048576) : ∃ K, ∀ k, K ≤ k → spec_maPreferences.f k l = some (prefsOk l) := by
  have h := ev_loop (F := fun k i => spec_maPreferences.l0 k l l (l.length : Int) (i : Int)) (n := l.length) (res := fun i => ((l.drop i).all fun x => decide (isMatchP x (l.length : Int))) && inr 1 7 (l.length : Int))
    (ev_suc 0 fun k _ => by
      simp only [spec_maPreferences.l0]
      rw [if_neg (by omega), l1In_eq, List.drop_of_length_le (Nat.le_refl _)]
      rfl)
    (fun i hi K hK => by
      obtain ⟨K2, h2⟩ := maMatch_ev l[i] (hx _ (List.getElem_mem hi)) (l.length : Int) (by omega)
      exact ev_suc (max K K2) fun k hk => by
        simp only [spec_maPreferences.l0]
        rw [if_pos (by omega), if_pos (by omega), if_pos (by omega), rdLL_nat l i hi, h2 k (by omega), List.drop_eq_getElem_cons hi, List.all_cons]
        simp only [Option.bind_some]
        by_cases h3 : isMatchP l[i] (l.length : Int)
        · by_cases h4 : 1 ≤ (l.length : Int) ∧ (l.length : Int) ≤ 7
          · rw [if_pos (decide_eq_true ⟨h3, h4⟩), decide_eq_true h3, Bool.true_and, w64s (by omega)]
            exact hK k (by omega)
          · rw [if_neg (by simp only [decide_eq_true_eq]; exact fun h => h4 h.2), (inr_false _ _ _).2 h4, Bool.and_false]
        · rw [if_neg (by simp only [decide_eq_true_eq]; exact fun h => h3 h.1), decide_eq_false h3, Bool.false_and, Bool.false_and]) 0 (Nat.zero_le _)
  exact h
theorem implArePreferences_ev (l : List (List Int)) (hl : l.length ≤ 1048576) (hx : ∀ x ∈ l, x.length ≤ 1048576) : ∃ K, ∀ k, K ≤ k → impl_ArePreferences.f k l = some (prefsOk l) := by
  have h := ev_loop (F := fun k i => impl_ArePreferences.l0 k l l (l.length : Int) (i : Int)) (n := l.length) (res := fun i => (l.drop i).all fun x => decide (isMatchP x (l.length : Int)))
    (ev_suc 0 fun k _ => by
      simp only [impl_ArePreferences.l0]
      rw [if_neg (by omega), List.drop_of_length_le (Nat.le_refl _)]
      rfl)
    (fun i hi K hK => by
      obtain ⟨K2, h2⟩ := implIsMatch_ev l[i] (hx _ (List.getElem_mem hi)) (l.length : Int) (by omega)
      exact ev_suc (max K K2) fun k hk => by
        simp only [impl_ArePreferences.l0]
        rw [if_pos (by omega), if_pos (by omega), if_pos (by omega), rdLL_nat l i hi, h2 k (by omega), List.drop_eq_getElem_cons hi, List.all_cons]
        simp only [Option.bind_some]
        by_cases h3 : isMatchP l[i] (l.length : Int)
        · rw [if_pos (decide_eq_true h3), decide_eq_true h3, Bool.true_and, w64s (by omega)]
          exact hK k (by omega)
        · rw [if_neg (by simp only [decide_eq_true_eq]; exact h3), decide_eq_false h3, Bool.false_and]) 0 (Nat.zero_le _)
  obtain ⟨K, h⟩ := h
  refine ev_suc K fun k hk => ?_
  have hk2 := h k hk
  unfold impl_ArePreferences.f prefsOk
  by_cases h1 : (l.length : Int) < 1
  · rw [if_pos h1, (inr_false _ _ _).2 (by omega), Bool.and_false]
    simp only [impl_ArePreferences.j0]
    rw [if_pos trivial]
  · rw [if_neg h1]
    simp only [impl_ArePreferences.j0]
    by_cases h2 : (l.length : Int) > 7
    · rw [if_pos (by simpa using h2), (inr_false _ _ _).2 (by omega), Bool.and_false]
    · rw [if_neg (by simpa using h2), (inr_iff _ _ _).2 (by omega), Bool.and_true]
      exact hk2
theorem FnExactArePreferences (l : List (List Int)) (hl : l.length ≤ maxLen) (hw : ∀ x ∈ l, x.length ≤ maxLen ∧ ∀ z ∈ x, (Lit.int .i64 z).wf = true) : ∃ k, laws_FnExactArePreferences.f k l = some true := by
  obtain ⟨r, ⟨K0, h0⟩, hr⟩ := szIntSS_ev l 1048576 (by omega) hl (fun x hx => (hw x hx).1)
  by_cases hneg : r < 0
  · refine ⟨K0, ?_⟩
    simp (disch := omega) only [laws_FnExactArePreferences.f, h0, Option.bind_some, hneg, if_true]
  · have hb := hr (by omega)
    have hl2 : l.length ≤ 1048576 := by omega
    have hx2 : ∀ x ∈ l, x.length ≤ 1048576 := fun x hx => by have := hb.2.2 x hx; omega
    obtain ⟨K1, h1⟩ := toIntSS_ev l hl2 hx2
    obtain ⟨K2, h2⟩ := maPreferences_ev l hl2 hx2
    obtain ⟨K3, h3⟩ := implArePreferences_ev l hl2 hx2
    obtain ⟨K4, h4⟩ := eqIntSS_ev l hl2 hx2
    refine ⟨K0 + K1 + K2 + K3 + K4, ?_⟩
    simp (disch := omega) only [laws_FnExactArePreferences.f, spec_ArePreferences.f, h0, h1, h2, h3, h4, Option.bind_some, hneg, if_true, if_false, bne_self_eq_false, Bool.false_eq_true]

end Go.Proofs.Ytjipboafhakjfaa.Pure
