/- THE PURE SIDE OF FnExactDumpTimes: the printed functions of the reference and of the program give the same results. Plain Lean: no memory and no Go. -/
import Derived.Test.YtociipogjmidiaaPFnExactDumpTimesx3
import Derived.OpenShut
namespace Go.Proofs.Ytociipogjmidiaa.Pure
open Go.RowKit Go.Proofs.Ytociipogjmidiaa.PFnExactDumpTimes Go.Proofs.YtociipogjmidiaaW.PrintWords Go.Proofs.YtociipogjmidiaaW.PrintLast Go.Proofs.YtociipogjmidiaaW.PrintMore
set_option linter.unusedVariables false
set_option linter.unusedSimpArgs false

theorem w64 {x : Int} (h1 : -9223372036854775808 ≤ x) (h2 : x ≤ 9223372036854775807) : wrap64 x = x := by unfold wrap64; omega
theorem w64s {i : Nat} (h : i ≤ 9000000000000000000) : wrap64 ((i : Int) + 1) = ((i + 1 : Nat) : Int) := by rw [w64 (by omega) (by omega)]; omega
theorem rd_nat (l : List Int) (i : Nat) (h : i < l.length) : rd l (i : Int) = l[i] := by simp [rd, List.getD_eq_getElem?_getD, h]
theorem wf64 {x : Int} (h : (Lit.int .i64 x).wf = true) : -9223372036854775808 ≤ x ∧ x ≤ 9223372036854775807 := by
  have := bounds_i64 h
  omega
def inr (lo hi x : Int) : Bool := decide (lo ≤ x) && decide (x ≤ hi)
theorem inr_iff (lo hi x : Int) : inr lo hi x = true ↔ lo ≤ x ∧ x ≤ hi := by simp [inr]
theorem inr_false (lo hi x : Int) : inr lo hi x = false ↔ ¬ (lo ≤ x ∧ x ≤ hi) := by rw [← inr_iff, Bool.not_eq_true]
theorem mx_of_lt {a b : Int} (h : a < b) : mx a b = b := if_pos h
theorem mx_of_ge {a b : Int} (h : b ≤ a) : mx a b = a := if_neg (by omega)
theorem mx_spec (a b : Int) : a ≤ mx a b ∧ b ≤ mx a b ∧ (mx a b = a ∨ mx a b = b) := by unfold mx; split <;> omega
theorem l1In_eq (a b c : Int) : spec_l1In.f a b c = some (inr b c a) := by
  unfold spec_l1In.f inr
  by_cases h : a ≥ b
  · rw [if_pos h]; simp [show b ≤ a from h]
  · rw [if_neg h]; simp [show ¬ b ≤ a from h]
theorem l1Most_eq (a b : Int) : spec_l1Most.f a b = some (mx a b) := by
  unfold spec_l1Most.f mx
  by_cases h : a > b
  · rw [if_pos h, if_neg (by omega)]
  · rw [if_neg h]
    by_cases h2 : a < b
    · rw [if_pos h2]
    · rw [if_neg h2, show a = b from by omega]
theorem l1All_l0 (lo hi : Int) (l : List Int) (hl : l.length ≤ 9000000000000000000) : ∀ (d k i : Nat), i + d = l.length → d < k → spec_l1All.l0 k lo hi l (l.length : Int) (i : Int) = some ((l.drop i).all (inr lo hi)) := by
  intro d
  induction d with
  | zero =>
    intro k i hi' hk
    obtain ⟨k, rfl⟩ : ∃ m, k = m + 1 := ⟨k - 1, by omega⟩
    simp only [spec_l1All.l0]
    rw [if_neg (by omega), List.drop_of_length_le (by omega)]; rfl
  | succ d ih =>
    intro k i hi' hk
    obtain ⟨k, rfl⟩ : ∃ m, k = m + 1 := ⟨k - 1, by omega⟩
    have hlt : i < l.length := by omega
    simp only [spec_l1All.l0]
    rw [if_pos (by omega), if_pos (by omega), if_pos (by omega), l1In_eq, List.drop_eq_getElem_cons hlt, List.all_cons, rd_nat l i hlt, w64s (by omega), ih k (i + 1) (by omega) (by omega)]
    simp only [Option.bind_some]
    by_cases h : inr lo hi l[i] = true
    · rw [if_pos h, h, Bool.true_and]
    · rw [if_neg h, Bool.eq_false_iff.mpr h, Bool.false_and]
theorem l1All_eq (lo hi : Int) (l : List Int) (hl : l.length ≤ 9000000000000000000) (k : Nat) (hk : l.length < k) : spec_l1All.f k l lo hi = some (l.all (inr lo hi)) := by
  unfold spec_l1All.f
  exact l1All_l0 lo hi l hl l.length k 0 (by omega) hk
theorem eqIntS_l0 (l : List Int) (hl : l.length ≤ 9000000000000000000) : ∀ (d k i : Nat), i + d = l.length → d < k → laws_eqIntS.l0 k l l (i : Int) = some true := by
  intro d
  induction d with
  | zero =>
    intro k i hi' hk
    obtain ⟨k, rfl⟩ : ∃ m, k = m + 1 := ⟨k - 1, by omega⟩
    simp only [laws_eqIntS.l0]
    rw [if_neg (by omega)]
  | succ d ih =>
    intro k i hi' hk
    obtain ⟨k, rfl⟩ : ∃ m, k = m + 1 := ⟨k - 1, by omega⟩
    simp only [laws_eqIntS.l0]
    rw [if_pos (by omega), if_pos (by omega), if_pos (by omega), if_pos trivial, w64s (by omega)]
    exact ih k (i + 1) (by omega) (by omega)
theorem eqIntS_self (l : List Int) (hl : l.length ≤ 9000000000000000000) (k : Nat) (hk : l.length < k) : laws_eqIntS.f k l l = some true := by
  unfold laws_eqIntS.f
  rw [if_pos rfl]
  exact eqIntS_l0 l hl l.length k 0 (by omega) hk
/-- What 'mark' writes: numbers in their order. -/
def ramp (a : Int) (n : Nat) : List Int := (List.range n).map fun (i : Nat) => a + (i : Int)
theorem ramp_length (a : Int) (n : Nat) : (ramp a n).length = n := by simp [ramp]
theorem ramp_succ (a : Int) (n : Nat) : ramp a (n + 1) = ramp a n ++ [a + (n : Int)] := by simp [ramp, List.range_succ]
theorem ramp_at (a : Int) (n i : Nat) (h : i < n) : rd (ramp a n) (i : Int) = a + (i : Int) := by
  rw [rd_nat _ _ (by rw [ramp_length]; exact h)]
  simp [ramp]
theorem markIntS_l0 (a : Int) (ha : 0 ≤ a ∧ a ≤ 1000000000000000000) (l : List Int) (hl : l.length ≤ 1000000000000000000) : ∀ (d k i : Nat), i + d = l.length → d < k → laws_markIntS.l0 k (ramp a i ++ l.drop i) (a + (i : Int)) (i : Int) = some (a + (l.length : Int), ramp a l.length) := by
  intro d
  induction d with
  | zero =>
    intro k i hi' hk
    obtain ⟨k, rfl⟩ : ∃ m, k = m + 1 := ⟨k - 1, by omega⟩
    obtain rfl : i = l.length := by omega
    simp only [laws_markIntS.l0]
    rw [if_neg (by simp [ramp_length]), List.drop_of_length_le (Nat.le_refl _), List.append_nil]
  | succ d ih =>
    intro k i hi' hk
    obtain ⟨k, rfl⟩ : ∃ m, k = m + 1 := ⟨k - 1, by omega⟩
    have hlt : i < l.length := by omega
    simp only [laws_markIntS.l0]
    rw [if_pos (by simp [ramp_length]; omega), if_pos (by omega), Int.toNat_natCast, List.drop_eq_getElem_cons hlt]
    rw [List.set_append_right _ _ (by rw [ramp_length]; exact Nat.le_refl _), ramp_length, Nat.sub_self, List.set_cons_zero]
    rw [w64s (by omega), w64 (by omega) (by omega)]
    have h := ih k (i + 1) (by omega) (by omega)
    rw [ramp_succ, List.append_assoc, List.singleton_append, show a + ((i + 1 : Nat) : Int) = a + (i : Int) + 1 from by omega] at h
    exact h
theorem markIntS_eq (a : Int) (ha : 0 ≤ a ∧ a ≤ 1000000000000000000) (l : List Int) (hl : l.length ≤ 1000000000000000000) (k : Nat) (hk : l.length < k) : laws_markIntS.f k l a = some (a + (l.length : Int), ramp a l.length) := by
  unfold laws_markIntS.f
  have h := markIntS_l0 a ha l hl l.length k 0 (by omega) hk
  simpa [ramp] using h
theorem heldIntS_l0 (a : Int) (ha : 0 ≤ a ∧ a ≤ 1000000000000000000) (n : Nat) (hl : n ≤ 1000000000000000000) : ∀ (d k i : Nat), i + d = n → d < k → laws_heldIntS.l0 k (ramp a n) (a + (i : Int)) (i : Int) = some (a + (n : Int)) := by
  intro d
  induction d with
  | zero =>
    intro k i hi' hk
    obtain ⟨k, rfl⟩ : ∃ m, k = m + 1 := ⟨k - 1, by omega⟩
    obtain rfl : i = n := by omega
    simp only [laws_heldIntS.l0]
    rw [if_neg (by rw [ramp_length]; omega)]
  | succ d ih =>
    intro k i hi' hk
    obtain ⟨k, rfl⟩ : ∃ m, k = m + 1 := ⟨k - 1, by omega⟩
    simp only [laws_heldIntS.l0]
    rw [if_pos (by rw [ramp_length]; omega), if_pos (by omega), ramp_at a n i (by omega), if_pos rfl, w64s (by omega), w64 (by omega) (by omega)]
    have h := ih k (i + 1) (by omega) (by omega)
    rw [show a + ((i + 1 : Nat) : Int) = a + (i : Int) + 1 from by omega] at h
    exact h
theorem heldIntS_eq (a : Int) (ha : 0 ≤ a ∧ a ≤ 1000000000000000000) (n : Nat) (hl : n ≤ 1000000000000000000) (k : Nat) (hk : n < k) : laws_heldIntS.f k (ramp a n) a = some (a + (n : Int)) := by
  unfold laws_heldIntS.f
  have h := heldIntS_l0 a ha n hl n k 0 (by omega) hk
  simpa using h

theorem isCycle_l0 (l : List Int) (hl : l.length ≤ 9000000000000000000) : ∀ (d k i : Nat), i + d = l.length → d < k → impl_IsCycle.l0 k l (l.length : Int) (i : Int) = some ((l.drop i).all (inr 1 100)) := by
  intro d
  induction d with
  | zero =>
    intro k i hi' hk
    obtain ⟨k, rfl⟩ : ∃ m, k = m + 1 := ⟨k - 1, by omega⟩
    simp only [impl_IsCycle.l0]
    rw [if_neg (by omega), List.drop_of_length_le (by omega)]; rfl
  | succ d ih =>
    intro k i hi' hk
    obtain ⟨k, rfl⟩ : ∃ m, k = m + 1 := ⟨k - 1, by omega⟩
    have hlt : i < l.length := by omega
    simp only [impl_IsCycle.l0]
    rw [if_pos (by omega), if_pos (by omega), if_pos (by omega), List.drop_eq_getElem_cons hlt, List.all_cons, rd_nat l i hlt, w64s (by omega), ih k (i + 1) (by omega) (by omega)]
    by_cases h : inr 1 100 l[i] = true
    · have h2 := (inr_iff _ _ _).1 h
      rw [if_neg (by omega), if_neg (by omega), h, Bool.true_and]
    · have h2 := (inr_false _ _ _).1 (Bool.eq_false_iff.mpr h)
      rw [Bool.eq_false_iff.mpr h, Bool.false_and]
      by_cases h3 : l[i] < 1
      · rw [if_pos h3]
      · rw [if_neg h3, if_pos (by omega)]
/-- What a valid cycle is. -/
def good (a b c d : Int) : Bool := [a, b, c, d].all (inr 1 100)
theorem good_iff (a b c d : Int) : good a b c d = true ↔ (1 ≤ a ∧ a ≤ 100) ∧ (1 ≤ b ∧ b ≤ 100) ∧ (1 ≤ c ∧ c ≤ 100) ∧ (1 ≤ d ∧ d ≤ 100) := by
  simp [good, inr]
theorem implIsCycle_eq (k : Nat) (hk : 10 ≤ k) (a b c d : Int) : impl_IsCycle.f k a b c d = some (good a b c d) := by
  unfold impl_IsCycle.f good
  simp only [Option.bind_some]
  exact isCycle_l0 [a, b, c, d] (by simp) 4 k 0 (by simp) (by omega)
theorem cyGood_eq (k : Nat) (hk : 10 ≤ k) (a b c d : Int) : spec_cyGood.f k a b c d = some (good a b c d) := by
  unfold spec_cyGood.f good
  rw [l1All_eq 1 100 [a, b, c, d] (by simp) k (by simp; omega)]
  rfl
theorem toCycle_eq (a b c d : Int) : laws_toCycle.f a b c d = some (a, b, c, d) := rfl
def asked (a b c d m n : Int) : Bool := good a b c d && (inr 1 12 m && inr 0 200 n)
theorem asked_iff (a b c d m n : Int) : asked a b c d m n = true ↔ good a b c d = true ∧ (1 ≤ m ∧ m ≤ 12) ∧ (0 ≤ n ∧ n ≤ 200) := by
  simp [asked, inr]
theorem cyAsked_eq (k : Nat) (hk : 10 ≤ k) (a b c d m n : Int) : spec_cyAsked.f k a b c d m n = some (asked a b c d m n) := by
  unfold spec_cyAsked.f asked spec_cyTrucks.f
  rw [cyGood_eq k hk]
  simp only [Option.bind_some, l1In_eq]
  cases good a b c d <;> cases inr 1 12 m <;> simp
theorem areTrucks_eq (k : Nat) (hk : 10 ≤ k) (a b c d m n : Int) : impl_areTrucks.f k a b c d m n = some (asked a b c d m n) := by
  unfold impl_areTrucks.f asked inr
  rw [implIsCycle_eq k hk]
  simp only [Option.bind_some, ge_iff_le]
  cases good a b c d
  · simp
  · by_cases h1 : 1 ≤ m <;> by_cases h2 : m ≤ 12 <;> by_cases h3 : 0 ≤ n <;> simp [h1, h2, h3]
/-! The run: begins and ends of loads, waits, when the shovel and the crusher are free, how long the shovel was idle. -/
structure CS where
  b : List Int
  e : List Int
  w : Int
  s : Int
  c : Int
  i : Int
/-- When the truck of load k is back. -/
def there (R : Int) (m k : Nat) (x : CS) : Int := if m ≤ k then x.e.getD (k - m) 0 + R else 0
def startOf (R : Int) (m k : Nat) (x : CS) : Int := mx (there R m k x) x.s
def dumpOf (L H R : Int) (m k : Nat) (x : CS) : Int := mx (startOf R m k x + L + H) x.c
def cyStep (L H D R : Int) (m k : Nat) (x : CS) : CS :=
  ⟨x.b ++ [startOf R m k x], x.e ++ [dumpOf L H R m k x + D], x.w + (startOf R m k x - there R m k x + dumpOf L H R m k x - (startOf R m k x + L + H)), startOf R m k x + L, dumpOf L H R m k x + D, if k = 0 then 0 else x.i + (startOf R m k x - x.s)⟩
def cyS (L H D R : Int) (m : Nat) : Nat → CS
  | 0 => ⟨[], [], 0, 0, 0, 0⟩
  | k + 1 => cyStep L H D R m k (cyS L H D R m k)
theorem getD_snoc (l : List Int) (x : Int) (j : Nat) : (l ++ [x]).getD j 0 = if j = l.length then x else l.getD j 0 := by
  simp only [List.getD_eq_getElem?_getD]
  by_cases h : j < l.length
  · rw [List.getElem?_append_left h, if_neg (by omega)]
  · by_cases h2 : j = l.length
    · subst h2; simp
    · rw [if_neg h2, List.getElem?_eq_none (by simp; omega), List.getElem?_eq_none (by omega)]
/-- What holds behind k loads. -/
structure CyInv (L D : Int) (k : Nat) (x : CS) : Prop where
  lb : x.b.length = k
  le : x.e.length = k
  ends : ∀ j : Nat, 0 ≤ x.e.getD j 0 ∧ x.e.getD j 0 ≤ x.c
  wait : 0 ≤ x.w ∧ x.w ≤ 200000 * (k : Int)
  shovel : 0 ≤ x.s ∧ x.s ≤ 400 * (k : Int)
  crusher : 0 ≤ x.c ∧ x.c ≤ 400 * (k : Int)
  begins : ∀ j : Nat, 0 ≤ x.b.getD j 0 ∧ x.b.getD j 0 ≤ 400 * (k : Int)
  idle : 0 ≤ x.i ∧ x.i ≤ x.s
  last : 1 ≤ k → x.s = x.b.getD (k - 1) 0 + L ∧ x.c = x.e.getD (k - 1) 0 ∧ x.i = x.b.getD (k - 1) 0 + L - x.b.getD 0 0 - (k : Int) * L
  none : k = 0 → x.s = 0 ∧ x.c = 0 ∧ x.i = 0
  rise : ∀ i j : Nat, i < j → j < k → x.e.getD i 0 + D ≤ x.e.getD j 0
theorem there_bounds {L D R : Int} (hR : 0 ≤ R ∧ R ≤ 100) (m k : Nat) {x : CS} (I : CyInv L D k x) : 0 ≤ there R m k x ∧ there R m k x ≤ x.c + 100 := by
  unfold there
  have := I.ends (k - m)
  have := I.crusher
  split <;> omega
/-- A valid cycle's times. -/
structure Times (L H D R : Int) : Prop where
  L : 1 ≤ L ∧ L ≤ 100
  H : 1 ≤ H ∧ H ≤ 100
  D : 1 ≤ D ∧ D ≤ 100
  R : 1 ≤ R ∧ R ≤ 100
theorem step_inv {L H D R : Int} (t : Times L H D R) (m k : Nat) (hk : k < 200) {x : CS} (I : CyInv L D k x) : CyInv L D (k + 1) (cyStep L H D R m k x) := by
  obtain ⟨hL, hH, hD, hR⟩ := t
  have ht := there_bounds (R := R) (by omega) m k I
  have hs : there R m k x ≤ startOf R m k x ∧ x.s ≤ startOf R m k x ∧ (startOf R m k x = there R m k x ∨ startOf R m k x = x.s) := mx_spec _ _
  have hd : startOf R m k x + L + H ≤ dumpOf L H R m k x ∧ x.c ≤ dumpOf L H R m k x ∧ (dumpOf L H R m k x = startOf R m k x + L + H ∨ dumpOf L H R m k x = x.c) := mx_spec _ _
  have i1 := I.wait
  have i2 := I.shovel
  have i3 := I.crusher
  have i4 := I.idle
  have hk1 : ((k + 1 : Nat) : Int) = (k : Int) + 1 := by omega
  refine ⟨?_, ?_, fun j => ?_, ?_, ?_, ?_, fun j => ?_, ?_, fun _ => ?_, fun h => by omega, fun i j hij hj => ?_⟩
  · simp [cyStep, I.lb]
  · simp [cyStep, I.le]
  · simp only [cyStep, getD_snoc, I.le]
    have i5 := I.ends j
    split <;> omega
  · simp only [cyStep]; omega
  · simp only [cyStep]; omega
  · simp only [cyStep]; omega
  · simp only [cyStep, getD_snoc, I.lb]
    have i5 := I.begins j
    split <;> omega
  · simp only [cyStep]
    split <;> omega
  · simp only [cyStep, getD_snoc, I.lb, I.le, Nat.add_sub_cancel, if_true]
    refine ⟨trivial, trivial, ?_⟩
    by_cases h0 : k = 0
    · subst h0; simp; omega
    · have i6 := (I.last (by omega)).1
      have i7 := (I.last (by omega)).2.2
      rw [if_neg h0, if_neg (by omega), i7, hk1, Int.add_mul]
      omega
  · simp only [cyStep, getD_snoc, I.le]
    rw [if_neg (by omega)]
    by_cases hjk : j = k
    · rw [if_pos hjk]
      have i8 := I.ends i
      omega
    · rw [if_neg hjk]
      exact I.rise i j hij (by omega)
theorem cyS_inv {L H D R : Int} (t : Times L H D R) (m : Nat) : ∀ k : Nat, k ≤ 200 → CyInv L D k (cyS L H D R m k) := by
  intro k
  induction k with
  | zero => exact fun _ => ⟨rfl, rfl, fun j => by simp [cyS], by simp [cyS], by simp [cyS], by simp [cyS], fun j => by simp [cyS], by simp [cyS], fun h => by omega, fun _ => ⟨rfl, rfl, rfl⟩, fun _ _ _ h => by omega⟩
  | succ k ih => exact fun hk => step_inv t m k (by omega) (ih (by omega))
/-- The reference's loop. -/
theorem cyRun_l0 {L H D R : Int} (t : Times L H D R) (m n : Nat) (hm : 1 ≤ m) (hm2 : m ≤ 12) (hn : n ≤ 200) : ∀ (d K k : Nat), k + d = n → d < K →
    spec_cyRun.l0 K (m : Int) (n : Int) (cyS L H D R m k).b (cyS L H D R m k).e (cyS L H D R m k).w (cyS L H D R m k).s (cyS L H D R m k).c (k : Int) L H D R = some ((cyS L H D R m n).b, (cyS L H D R m n).e, (cyS L H D R m n).w) := by
  intro d
  induction d with
  | zero =>
    intro K k hk hK
    obtain ⟨K, rfl⟩ : ∃ j, K = j + 1 := ⟨K - 1, by omega⟩
    obtain rfl : k = n := by omega
    simp only [spec_cyRun.l0]
    rw [if_neg (by omega)]
  | succ d ih =>
    intro K k hk hK
    obtain ⟨K, rfl⟩ : ∃ j, K = j + 1 := ⟨K - 1, by omega⟩
    have I := cyS_inv t m k (by omega)
    have h := ih K (k + 1) (by omega) (by omega)
    rw [show cyS L H D R m (k + 1) = cyStep L H D R m k (cyS L H D R m k) from rfl] at h
    generalize cyS L H D R m k = x at I h ⊢
    obtain ⟨hL, hH, hD, hR⟩ := t
    have ht := there_bounds (R := R) (by omega) m k I
    have hs : there R m k x ≤ startOf R m k x ∧ x.s ≤ startOf R m k x ∧ (startOf R m k x = there R m k x ∨ startOf R m k x = x.s) := mx_spec _ _
    have hd : startOf R m k x + L + H ≤ dumpOf L H R m k x ∧ x.c ≤ dumpOf L H R m k x ∧ (dumpOf L H R m k x = startOf R m k x + L + H ∨ dumpOf L H R m k x = x.c) := mx_spec _ _
    have i1 := I.wait
    have i2 := I.shovel
    have i3 := I.crusher
    have i4 := I.le
    have i5 := I.lb
    have e0 : mx (there R m k x) x.s = startOf R m k x := rfl
    have e1 : mx (startOf R m k x + L + H) x.c = dumpOf L H R m k x := rfl
    simp only [cyStep] at h
    simp only [spec_cyRun.l0]
    rw [if_pos (by omega)]
    by_cases hc : m ≤ k
    · have e2 : rd x.e (wrap64 ((k : Int) - (m : Int))) + R = there R m k x := by
        rw [w64 (by omega) (by omega)]
        unfold there rd
        rw [if_pos hc, show ((k : Int) - (m : Int)).toNat = k - m from by omega]
      rw [if_pos (by omega), if_pos (by rw [w64 (by omega) (by omega)]; omega), if_pos (by rw [w64 (by omega) (by omega)]; omega), e2]
      simp only [l1Most_eq, Option.bind_some]
      simp (disch := omega) only [w64, e0, e1]
      rw [if_pos (by omega), if_pos (by omega), ← h]
      congr 1 <;> omega
    · have e2 : (0 : Int) = there R m k x := by
        unfold there
        rw [if_neg hc]
      rw [if_neg (by omega)]
      simp only [l1Most_eq, Option.bind_some]
      rw [e2]
      simp (disch := omega) only [w64, e0, e1]
      rw [if_pos (by omega), if_pos (by omega), ← h]
      congr 1 <;> omega
theorem cyRun_eq {L H D R : Int} (t : Times L H D R) (m n : Nat) (hm : 1 ≤ m) (hm2 : m ≤ 12) (hn : n ≤ 200) (K : Nat) (hK : n < K) : spec_cyRun.f K L H D R (m : Int) (n : Int) = some ((cyS L H D R m n).b, (cyS L H D R m n).e, (cyS L H D R m n).w) := by
  unfold spec_cyRun.f
  exact cyRun_l0 t m n hm hm2 hn n K 0 (by omega) hK
/-- The program's loop. -/
theorem runCycle_l0 {L H D R : Int} (t : Times L H D R) (m n : Nat) (hm : 1 ≤ m) (hm2 : m ≤ 12) (hn : n ≤ 200) : ∀ (d K k : Nat), k + d = n → 2 * d < K →
    impl_runCycle.l0 K (m : Int) (n : Int) (cyS L H D R m k).e (cyS L H D R m k).w (cyS L H D R m k).i (cyS L H D R m k).s (k : Int) L H D R = some ((cyS L H D R m n).e, (cyS L H D R m n).w, (cyS L H D R m n).i) := by
  intro d
  induction d with
  | zero =>
    intro K k hk hK
    obtain ⟨K, rfl⟩ : ∃ j, K = j + 1 := ⟨K - 1, by omega⟩
    obtain rfl : k = n := by omega
    simp only [impl_runCycle.l0]
    rw [if_neg (by omega)]
  | succ d ih =>
    intro K k hk hK
    obtain ⟨K, rfl⟩ : ∃ j, K = j + 2 := ⟨K - 2, by omega⟩
    have I := cyS_inv t m k (by omega)
    have h := ih K (k + 1) (by omega) (by omega)
    rw [show cyS L H D R m (k + 1) = cyStep L H D R m k (cyS L H D R m k) from rfl] at h
    generalize cyS L H D R m k = x at I h ⊢
    obtain ⟨hL, hH, hD, hR⟩ := t
    have ht := there_bounds (R := R) (by omega) m k I
    have hs : there R m k x ≤ startOf R m k x ∧ x.s ≤ startOf R m k x ∧ (startOf R m k x = there R m k x ∨ startOf R m k x = x.s) := mx_spec _ _
    have hd : startOf R m k x + L + H ≤ dumpOf L H R m k x ∧ x.c ≤ dumpOf L H R m k x ∧ (dumpOf L H R m k x = startOf R m k x + L + H ∨ dumpOf L H R m k x = x.c) := mx_spec _ _
    have i1 := I.wait
    have i2 := I.shovel
    have i3 := I.crusher
    have i4 := I.le
    have i5 := I.idle
    have i6 := I.last
    have i7 := I.none
    have e0 : mx (there R m k x) x.s = startOf R m k x := rfl
    have e1 : mx (startOf R m k x + L + H) x.c = dumpOf L H R m k x := rfl
    simp only [cyStep] at h
    have key : impl_runCycle.j1 (K + 1) (m : Int) (n : Int) x.e x.w x.i x.s (k : Int) (there R m k x) 0 L H D R = some ((cyS L H D R m n).e, (cyS L H D R m n).w, (cyS L H D R m n).i) := by
      simp only [impl_runCycle.j1]
      by_cases hk0 : k = 0
      · have h7 := i7 hk0
        have e3 : mx (startOf R m k x + L + H) 0 = dumpOf L H R m k x := by rw [← e1, h7.2.1]
        rw [if_neg (by omega)]
        simp (disch := omega) only [w64, e0, e3]
        rw [if_pos (by omega), ← h]
        congr 1
        · omega
        · rw [if_pos hk0]; omega
      · have h6 := i6 (by omega)
        have e3 : rd x.e (wrap64 ((k : Int) - 1)) = x.c := by
          rw [w64 (by omega) (by omega), h6.2.1]
          unfold rd
          rw [show ((k : Int) - 1).toNat = k - 1 from by omega]
        rw [if_pos (by omega), if_pos (by rw [w64 (by omega) (by omega)]; omega), if_pos (by rw [w64 (by omega) (by omega)]; omega), e3]
        simp (disch := omega) only [w64, e0, e1]
        rw [if_pos (by omega), ← h]
        congr 1
        · omega
        · rw [if_neg hk0]
    simp only [impl_runCycle.l0]
    rw [if_pos (by omega)]
    by_cases hc : m ≤ k
    · have e2 : rd x.e (wrap64 ((k : Int) - (m : Int))) + R = there R m k x := by
        rw [w64 (by omega) (by omega)]
        unfold there rd
        rw [if_pos hc, show ((k : Int) - (m : Int)).toNat = k - m from by omega]
      rw [if_pos (by omega), if_pos (by rw [w64 (by omega) (by omega)]; omega), if_pos (by rw [w64 (by omega) (by omega)]; omega), e2, w64 (by omega) (by omega)]
      exact key
    · have e2 : there R m k x = 0 := by
        unfold there
        rw [if_neg hc]
      rw [if_neg (by omega)]
      rw [e2] at key
      exact key
theorem runCycle_eq {L H D R : Int} (t : Times L H D R) (m n : Nat) (hm : 1 ≤ m) (hm2 : m ≤ 12) (hn : n ≤ 200) (K : Nat) (hK : 2 * n < K) : impl_runCycle.f K L H D R (m : Int) (n : Int) = some ((cyS L H D R m n).e, (cyS L H D R m n).w, (cyS L H D R m n).i) := by
  unfold impl_runCycle.f
  exact runCycle_l0 t m n hm hm2 hn n K 0 (by omega) hK
/-- What is asked, in whole numbers. -/
theorem asked_nat {a b c d m n : Int} (h : asked a b c d m n = true) : Times a b c d ∧ ∃ m' n' : Nat, m = m' ∧ n = n' ∧ 1 ≤ m' ∧ m' ≤ 12 ∧ n' ≤ 200 := by
  obtain ⟨h1, h2, h3⟩ := (asked_iff _ _ _ _ _ _).1 h
  have h1 := (good_iff _ _ _ _).1 h1
  exact ⟨⟨h1.1, h1.2.1, h1.2.2.1, h1.2.2.2⟩, m.toNat, n.toNat, by omega, by omega, by omega, by omega, by omega⟩
theorem dump_eq (k : Nat) (hk : 500 ≤ k) (a b c d m n : Int) : spec_DumpTimes.f k a b c d m n = some (if asked a b c d m n = true then ((cyS a b c d m.toNat n.toNat).e, true) else ([], false)) ∧ impl_DumpTimes.f k a b c d m n = some (if asked a b c d m n = true then ((cyS a b c d m.toNat n.toNat).e, true) else ([], false)) := by
  unfold spec_DumpTimes.f impl_DumpTimes.f
  rw [cyAsked_eq k (by omega), areTrucks_eq k (by omega)]
  simp only [Option.bind_some]
  by_cases h : asked a b c d m n = true
  · obtain ⟨t, m, n, rfl, rfl, hm, hm2, hn⟩ := asked_nat h
    simp only [if_pos h, cyRun_eq t m n hm hm2 hn k (by omega), runCycle_eq t m n hm hm2 hn k (by omega), Option.bind_some, Int.toNat_natCast, and_self]
  · simp only [if_neg h, and_self]
theorem FnExactDumpTimes (a b c d m n : Int) (_ : (Lit.int .i64 a).wf = true) (_ : (Lit.int .i64 b).wf = true) (_ : (Lit.int .i64 c).wf = true) (_ : (Lit.int .i64 d).wf = true) (_ : (Lit.int .i64 m).wf = true) (_ : (Lit.int .i64 n).wf = true) : ∃ k, laws_FnExactDumpTimes.f k a b c d m n = some true := by
  refine ⟨602, ?_⟩
  have hd := fun k hk => dump_eq k hk a b c d m n
  generalize hr : (if asked a b c d m n = true then ((cyS a b c d m.toNat n.toNat).e, true) else ([], false)) = r at hd
  have hl : r.1.length ≤ 200 := by
    rw [← hr]
    by_cases h : asked a b c d m n = true
    · obtain ⟨t, m, n, rfl, rfl, hm, hm2, hn⟩ := asked_nat h
      rw [if_pos h]
      have := (cyS_inv t m n hn).le
      simp only [Int.toNat_natCast]
      omega
    · rw [if_neg h]; simp
  unfold laws_FnExactDumpTimes.f
  simp only [toCycle_eq, Option.bind_some, (hd 602 (by omega)).1, (hd 602 (by omega)).2, eqIntS_self r.1 (by omega) 602 (by omega), bne_self_eq_false, if_true]
  simp only [laws_FnExactDumpTimes.j0, Bool.false_eq_true, if_false, toCycle_eq, Option.bind_some, (hd 601 (by omega)).2, eqIntS_self r.1 (by omega) 601 (by omega), markIntS_eq 1 (by omega) r.1 (by omega) 601 (by omega), heldIntS_eq 1 (by omega) r.1.length (by omega) 601 (by omega), bne_self_eq_false, if_true]
  rw [if_neg (by omega)]
  simp only [laws_FnExactDumpTimes.j1, Bool.false_eq_true, if_false, heldIntS_eq 1 (by omega) r.1.length (by omega) 600 (by omega), Option.bind_some, if_true]
  rw [if_neg (by omega)]
end Go.Proofs.Ytociipogjmidiaa.Pure
