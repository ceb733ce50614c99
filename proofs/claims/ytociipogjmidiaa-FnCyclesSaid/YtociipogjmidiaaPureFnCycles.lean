/- THE PURE SIDE OF FnCycles: the printed functions of the reference and of the program give the same results. Plain Lean: no memory and no Go. -/
import Derived.Test.YtociipogjmidiaaPFnCyclesx5
import Derived.OpenShut
import Derived.Laws.Bits64b
namespace Go.Proofs.Ytociipogjmidiaa.Pure
open Go.RowKit Go.Proofs.Ytociipogjmidiaa.PFnCycles Go.Proofs.YtociipogjmidiaaW.PrintWords Go.Proofs.YtociipogjmidiaaW.PrintLast Go.Proofs.YtociipogjmidiaaW.PrintMore
set_option linter.unusedVariables false
set_option linter.unusedSimpArgs false

theorem w64 {x : Int} (h1 : -9223372036854775808 ≤ x) (h2 : x ≤ 9223372036854775807) : wrap64 x = x := by unfold wrap64; omega
theorem w64s {i : Nat} (h : i ≤ 9000000000000000000) : wrap64 ((i : Int) + 1) = ((i + 1 : Nat) : Int) := by rw [w64 (by omega) (by omega)]; omega
theorem rd_nat (l : List Int) (i : Nat) (h : i < l.length) : rd l (i : Int) = l[i] := by simp [rd, List.getD_eq_getElem?_getD, h]
def inr (lo hi x : Int) : Bool := decide (lo ≤ x) && decide (x ≤ hi)
theorem inr_iff (lo hi x : Int) : inr lo hi x = true ↔ lo ≤ x ∧ x ≤ hi := by simp [inr]
theorem inr_false (lo hi x : Int) : inr lo hi x = false ↔ ¬ (lo ≤ x ∧ x ≤ hi) := by rw [← inr_iff, Bool.not_eq_true]
theorem mx_spec (a b : Int) : a ≤ mx a b ∧ b ≤ mx a b ∧ (mx a b = a ∨ mx a b = b) := by unfold mx; split <;> omega
theorem l1In_eq (a b c : Int) : spec_l1In.f a b c = some (inr b c a) := by
  unfold spec_l1In.f inr
  by_cases h : a ≥ b
  · rw [if_pos h]; simp [show b ≤ a from h]
  · rw [if_neg h]; simp [show ¬ b ≤ a from h]
theorem l1Most_eq (a b : Int) : spec_l1Most.f a b = some (mx a b) := by
  unfold spec_l1Most.f mx
  by_cases h : a > b
  · rw [if_pos h, if_neg (by omega)]
  · rw [if_neg h]
    by_cases h2 : a < b
    · rw [if_pos h2]
    · rw [if_neg h2, show a = b from by omega]
theorem l1All_l0 (lo hi : Int) (l : List Int) (hl : l.length ≤ 9000000000000000000) : ∀ (d k i : Nat), i + d = l.length → d < k → spec_l1All.l0 k lo hi l (l.length : Int) (i : Int) = some ((l.drop i).all (inr lo hi)) := by
  intro d
  induction d with
  | zero =>
    intro k i hi' hk
    obtain ⟨k, rfl⟩ : ∃ m, k = m + 1 := ⟨k - 1, by omega⟩
    simp only [spec_l1All.l0]
    rw [if_neg (by omega), List.drop_of_length_le (by omega)]; rfl
  | succ d ih =>
    intro k i hi' hk
    obtain ⟨k, rfl⟩ : ∃ m, k = m + 1 := ⟨k - 1, by omega⟩
    have hlt : i < l.length := by omega
    simp only [spec_l1All.l0]
    rw [if_pos (by omega), if_pos (by omega), if_pos (by omega), l1In_eq, List.drop_eq_getElem_cons hlt, List.all_cons, rd_nat l i hlt, w64s (by omega), ih k (i + 1) (by omega) (by omega)]
    simp only [Option.bind_some]
    by_cases h : inr lo hi l[i] = true
    · rw [if_pos h, h, Bool.true_and]
    · rw [if_neg h, Bool.eq_false_iff.mpr h, Bool.false_and]
theorem l1All_eq (lo hi : Int) (l : List Int) (hl : l.length ≤ 9000000000000000000) (k : Nat) (hk : l.length < k) : spec_l1All.f k l lo hi = some (l.all (inr lo hi)) := by
  unfold spec_l1All.f
  exact l1All_l0 lo hi l hl l.length k 0 (by omega) hk
theorem isCycle_l0 (l : List Int) (hl : l.length ≤ 9000000000000000000) : ∀ (d k i : Nat), i + d = l.length → d < k → impl_IsCycle.l0 k l (l.length : Int) (i : Int) = some ((l.drop i).all (inr 1 100)) := by
  intro d
  induction d with
  | zero =>
    intro k i hi' hk
    obtain ⟨k, rfl⟩ : ∃ m, k = m + 1 := ⟨k - 1, by omega⟩
    simp only [impl_IsCycle.l0]
    rw [if_neg (by omega), List.drop_of_length_le (by omega)]; rfl
  | succ d ih =>
    intro k i hi' hk
    obtain ⟨k, rfl⟩ : ∃ m, k = m + 1 := ⟨k - 1, by omega⟩
    have hlt : i < l.length := by omega
    simp only [impl_IsCycle.l0]
    rw [if_pos (by omega), if_pos (by omega), if_pos (by omega), List.drop_eq_getElem_cons hlt, List.all_cons, rd_nat l i hlt, w64s (by omega), ih k (i + 1) (by omega) (by omega)]
    by_cases h : inr 1 100 l[i] = true
    · have h2 := (inr_iff _ _ _).1 h
      rw [if_neg (by omega), if_neg (by omega), h, Bool.true_and]
    · have h2 := (inr_false _ _ _).1 (Bool.eq_false_iff.mpr h)
      rw [Bool.eq_false_iff.mpr h, Bool.false_and]
      by_cases h3 : l[i] < 1
      · rw [if_pos h3]
      · rw [if_neg h3, if_pos (by omega)]
/-- What a valid cycle is. -/
def good (a b c d : Int) : Bool := [a, b, c, d].all (inr 1 100)
theorem good_iff (a b c d : Int) : good a b c d = true ↔ (1 ≤ a ∧ a ≤ 100) ∧ (1 ≤ b ∧ b ≤ 100) ∧ (1 ≤ c ∧ c ≤ 100) ∧ (1 ≤ d ∧ d ≤ 100) := by
  simp [good, inr]
theorem implIsCycle_eq (k : Nat) (hk : 10 ≤ k) (a b c d : Int) : impl_IsCycle.f k a b c d = some (good a b c d) := by
  unfold impl_IsCycle.f good
  simp only [Option.bind_some]
  exact isCycle_l0 [a, b, c, d] (by simp) 4 k 0 (by simp) (by omega)
theorem cyGood_eq (k : Nat) (hk : 10 ≤ k) (a b c d : Int) : spec_cyGood.f k a b c d = some (good a b c d) := by
  unfold spec_cyGood.f good
  rw [l1All_eq 1 100 [a, b, c, d] (by simp) k (by simp; omega)]
  rfl
theorem specIsCycle_eq (k : Nat) (hk : 10 ≤ k) (a b c d : Int) : spec_IsCycle.f k a b c d = some (good a b c d) := by
  unfold spec_IsCycle.f
  rw [cyGood_eq k hk]; rfl
def asked (a b c d m n : Int) : Bool := good a b c d && (inr 1 12 m && inr 0 200 n)
theorem asked_iff (a b c d m n : Int) : asked a b c d m n = true ↔ good a b c d = true ∧ (1 ≤ m ∧ m ≤ 12) ∧ (0 ≤ n ∧ n ≤ 200) := by
  simp [asked, inr]
theorem cyAsked_eq (k : Nat) (hk : 10 ≤ k) (a b c d m n : Int) : spec_cyAsked.f k a b c d m n = some (asked a b c d m n) := by
  unfold spec_cyAsked.f asked spec_cyTrucks.f
  rw [cyGood_eq k hk]
  simp only [Option.bind_some, l1In_eq]
  cases good a b c d <;> cases inr 1 12 m <;> simp
theorem areTrucks_eq (k : Nat) (hk : 10 ≤ k) (a b c d m n : Int) : impl_areTrucks.f k a b c d m n = some (asked a b c d m n) := by
  unfold impl_areTrucks.f asked inr
  rw [implIsCycle_eq k hk]
  simp only [Option.bind_some, ge_iff_le]
  cases good a b c d
  · simp
  · by_cases h1 : 1 ≤ m <;> by_cases h2 : m ≤ 12 <;> by_cases h3 : 0 ≤ n <;> simp [h1, h2, h3]
theorem implTime_eq {a b c d : Int} (h : good a b c d = true) : impl_cycleTime.f a b c d = some (a + b + c + d) := by
  have h := (good_iff _ _ _ _).1 h
  unfold impl_cycleTime.f
  rw [w64 (x := a + b) (by omega) (by omega), w64 (x := a + b + c) (by omega) (by omega), w64 (x := a + b + c + d) (by omega) (by omega)]
/-! The run: begins and ends of loads, waits, when the shovel and the crusher are free, how long the shovel was idle. -/
structure CS where
  b : List Int
  e : List Int
  w : Int
  s : Int
  c : Int
  i : Int
/-- When the truck of load k is back. -/
def there (R : Int) (m k : Nat) (x : CS) : Int := if m ≤ k then x.e.getD (k - m) 0 + R else 0
def startOf (R : Int) (m k : Nat) (x : CS) : Int := mx (there R m k x) x.s
def dumpOf (L H R : Int) (m k : Nat) (x : CS) : Int := mx (startOf R m k x + L + H) x.c
def cyStep (L H D R : Int) (m k : Nat) (x : CS) : CS :=
  ⟨x.b ++ [startOf R m k x], x.e ++ [dumpOf L H R m k x + D], x.w + (startOf R m k x - there R m k x + dumpOf L H R m k x - (startOf R m k x + L + H)), startOf R m k x + L, dumpOf L H R m k x + D, if k = 0 then 0 else x.i + (startOf R m k x - x.s)⟩
def cyS (L H D R : Int) (m : Nat) : Nat → CS
  | 0 => ⟨[], [], 0, 0, 0, 0⟩
  | k + 1 => cyStep L H D R m k (cyS L H D R m k)
theorem getD_snoc (l : List Int) (x : Int) (j : Nat) : (l ++ [x]).getD j 0 = if j = l.length then x else l.getD j 0 := by
  simp only [List.getD_eq_getElem?_getD]
  by_cases h : j < l.length
  · rw [List.getElem?_append_left h, if_neg (by omega)]
  · by_cases h2 : j = l.length
    · subst h2; simp
    · rw [if_neg h2, List.getElem?_eq_none (by simp; omega), List.getElem?_eq_none (by omega)]
/-- What holds behind k loads. -/
structure CyInv (L D : Int) (k : Nat) (x : CS) : Prop where
  lb : x.b.length = k
  le : x.e.length = k
  ends : ∀ j : Nat, 0 ≤ x.e.getD j 0 ∧ x.e.getD j 0 ≤ x.c
  wait : 0 ≤ x.w ∧ x.w ≤ 200000 * (k : Int)
  shovel : 0 ≤ x.s ∧ x.s ≤ 400 * (k : Int)
  crusher : 0 ≤ x.c ∧ x.c ≤ 400 * (k : Int)
  begins : ∀ j : Nat, 0 ≤ x.b.getD j 0 ∧ x.b.getD j 0 ≤ 400 * (k : Int)
  idle : 0 ≤ x.i ∧ x.i ≤ x.s
  last : 1 ≤ k → x.s = x.b.getD (k - 1) 0 + L ∧ x.c = x.e.getD (k - 1) 0 ∧ x.i = x.b.getD (k - 1) 0 + L - x.b.getD 0 0 - (k : Int) * L
  none : k = 0 → x.s = 0 ∧ x.c = 0 ∧ x.i = 0
  rise : ∀ i j : Nat, i < j → j < k → x.e.getD i 0 + D ≤ x.e.getD j 0
theorem there_bounds {L D R : Int} (hR : 0 ≤ R ∧ R ≤ 100) (m k : Nat) {x : CS} (I : CyInv L D k x) : 0 ≤ there R m k x ∧ there R m k x ≤ x.c + 100 := by
  unfold there
  have := I.ends (k - m)
  have := I.crusher
  split <;> omega
/-- A valid cycle's times. -/
structure Times (L H D R : Int) : Prop where
  L : 1 ≤ L ∧ L ≤ 100
  H : 1 ≤ H ∧ H ≤ 100
  D : 1 ≤ D ∧ D ≤ 100
  R : 1 ≤ R ∧ R ≤ 100
theorem step_inv {L H D R : Int} (t : Times L H D R) (m k : Nat) (hk : k < 200) {x : CS} (I : CyInv L D k x) : CyInv L D (k + 1) (cyStep L H D R m k x) := by
  obtain ⟨hL, hH, hD, hR⟩ := t
  have ht := there_bounds (R := R) (by omega) m k I
  have hs : there R m k x ≤ startOf R m k x ∧ x.s ≤ startOf R m k x ∧ (startOf R m k x = there R m k x ∨ startOf R m k x = x.s) := mx_spec _ _
  have hd : startOf R m k x + L + H ≤ dumpOf L H R m k x ∧ x.c ≤ dumpOf L H R m k x ∧ (dumpOf L H R m k x = startOf R m k x + L + H ∨ dumpOf L H R m k x = x.c) := mx_spec _ _
  have i1 := I.wait
  have i2 := I.shovel
  have i3 := I.crusher
  have i4 := I.idle
  have hk1 : ((k + 1 : Nat) : Int) = (k : Int) + 1 := by omega
  refine ⟨?_, ?_, fun j => ?_, ?_, ?_, ?_, fun j => ?_, ?_, fun _ => ?_, fun h => by omega, fun i j hij hj => ?_⟩
  · simp [cyStep, I.lb]
  · simp [cyStep, I.le]
  · simp only [cyStep, getD_snoc, I.le]
    have i5 := I.ends j
    split <;> omega
  · simp only [cyStep]; omega
  · simp only [cyStep]; omega
  · simp only [cyStep]; omega
  · simp only [cyStep, getD_snoc, I.lb]
    have i5 := I.begins j
    split <;> omega
  · simp only [cyStep]
    split <;> omega
  · simp only [cyStep, getD_snoc, I.lb, I.le, Nat.add_sub_cancel, if_true]
    refine ⟨trivial, trivial, ?_⟩
    by_cases h0 : k = 0
    · subst h0; simp; omega
    · have i6 := (I.last (by omega)).1
      have i7 := (I.last (by omega)).2.2
      rw [if_neg h0, if_neg (by omega), i7, hk1, Int.add_mul]
      omega
  · simp only [cyStep, getD_snoc, I.le]
    rw [if_neg (by omega)]
    by_cases hjk : j = k
    · rw [if_pos hjk]
      have i8 := I.ends i
      omega
    · rw [if_neg hjk]
      exact I.rise i j hij (by omega)
theorem cyS_inv {L H D R : Int} (t : Times L H D R) (m : Nat) : ∀ k : Nat, k ≤ 200 → CyInv L D k (cyS L H D R m k) := by
  intro k
  induction k with
  | zero => exact fun _ => ⟨rfl, rfl, fun j => by simp [cyS], by simp [cyS], by simp [cyS], by simp [cyS], fun j => by simp [cyS], by simp [cyS], fun h => by omega, fun _ => ⟨rfl, rfl, rfl⟩, fun _ _ _ h => by omega⟩
  | succ k ih => exact fun hk => step_inv t m k (by omega) (ih (by omega))
/-- The reference's loop. -/
theorem cyRun_l0 {L H D R : Int} (t : Times L H D R) (m n : Nat) (hm : 1 ≤ m) (hm2 : m ≤ 12) (hn : n ≤ 200) : ∀ (d K k : Nat), k + d = n → d < K →
    spec_cyRun.l0 K (m : Int) (n : Int) (cyS L H D R m k).b (cyS L H D R m k).e (cyS L H D R m k).w (cyS L H D R m k).s (cyS L H D R m k).c (k : Int) L H D R = some ((cyS L H D R m n).b, (cyS L H D R m n).e, (cyS L H D R m n).w) := by
  intro d
  induction d with
  | zero =>
    intro K k hk hK
    obtain ⟨K, rfl⟩ : ∃ j, K = j + 1 := ⟨K - 1, by omega⟩
    obtain rfl : k = n := by omega
    simp only [spec_cyRun.l0]
    rw [if_neg (by omega)]
  | succ d ih =>
    intro K k hk hK
    obtain ⟨K, rfl⟩ : ∃ j, K = j + 1 := ⟨K - 1, by omega⟩
    have I := cyS_inv t m k (by omega)
    have h := ih K (k + 1) (by omega) (by omega)
    rw [show cyS L H D R m (k + 1) = cyStep L H D R m k (cyS L H D R m k) from rfl] at h
    generalize cyS L H D R m k = x at I h ⊢
    obtain ⟨hL, hH, hD, hR⟩ := t
    have ht := there_bounds (R := R) (by omega) m k I
    have hs : there R m k x ≤ startOf R m k x ∧ x.s ≤ startOf R m k x ∧ (startOf R m k x = there R m k x ∨ startOf R m k x = x.s) := mx_spec _ _
    have hd : startOf R m k x + L + H ≤ dumpOf L H R m k x ∧ x.c ≤ dumpOf L H R m k x ∧ (dumpOf L H R m k x = startOf R m k x + L + H ∨ dumpOf L H R m k x = x.c) := mx_spec _ _
    have i1 := I.wait
    have i2 := I.shovel
    have i3 := I.crusher
    have i4 := I.le
    have i5 := I.lb
    have e0 : mx (there R m k x) x.s = startOf R m k x := rfl
    have e1 : mx (startOf R m k x + L + H) x.c = dumpOf L H R m k x := rfl
    simp only [cyStep] at h
    simp only [spec_cyRun.l0]
    rw [if_pos (by omega)]
    by_cases hc : m ≤ k
    · have e2 : rd x.e (wrap64 ((k : Int) - (m : Int))) + R = there R m k x := by
        rw [w64 (by omega) (by omega)]
        unfold there rd
        rw [if_pos hc, show ((k : Int) - (m : Int)).toNat = k - m from by omega]
      rw [if_pos (by omega), if_pos (by rw [w64 (by omega) (by omega)]; omega), if_pos (by rw [w64 (by omega) (by omega)]; omega), e2]
      simp only [l1Most_eq, Option.bind_some]
      simp (disch := omega) only [w64, e0, e1]
      rw [if_pos (by omega), if_pos (by omega), ← h]
      congr 1 <;> omega
    · have e2 : (0 : Int) = there R m k x := by
        unfold there
        rw [if_neg hc]
      rw [if_neg (by omega)]
      simp only [l1Most_eq, Option.bind_some]
      rw [e2]
      simp (disch := omega) only [w64, e0, e1]
      rw [if_pos (by omega), if_pos (by omega), ← h]
      congr 1 <;> omega
theorem cyRun_eq {L H D R : Int} (t : Times L H D R) (m n : Nat) (hm : 1 ≤ m) (hm2 : m ≤ 12) (hn : n ≤ 200) (K : Nat) (hK : n < K) : spec_cyRun.f K L H D R (m : Int) (n : Int) = some ((cyS L H D R m n).b, (cyS L H D R m n).e, (cyS L H D R m n).w) := by
  unfold spec_cyRun.f
  exact cyRun_l0 t m n hm hm2 hn n K 0 (by omega) hK
/-- The program's loop. -/
theorem runCycle_l0 {L H D R : Int} (t : Times L H D R) (m n : Nat) (hm : 1 ≤ m) (hm2 : m ≤ 12) (hn : n ≤ 200) : ∀ (d K k : Nat), k + d = n → 2 * d < K →
    impl_runCycle.l0 K (m : Int) (n : Int) (cyS L H D R m k).e (cyS L H D R m k).w (cyS L H D R m k).i (cyS L H D R m k).s (k : Int) L H D R = some ((cyS L H D R m n).e, (cyS L H D R m n).w, (cyS L H D R m n).i) := by
  intro d
  induction d with
  | zero =>
    intro K k hk hK
    obtain ⟨K, rfl⟩ : ∃ j, K = j + 1 := ⟨K - 1, by omega⟩
    obtain rfl : k = n := by omega
    simp only [impl_runCycle.l0]
    rw [if_neg (by omega)]
  | succ d ih =>
    intro K k hk hK
    obtain ⟨K, rfl⟩ : ∃ j, K = j + 2 := ⟨K - 2, by omega⟩
    have I := cyS_inv t m k (by omega)
    have h := ih K (k + 1) (by omega) (by omega)
    rw [show cyS L H D R m (k + 1) = cyStep L H D R m k (cyS L H D R m k) from rfl] at h
    generalize cyS L H D R m k = x at I h ⊢
    obtain ⟨hL, hH, hD, hR⟩ := t
    have ht := there_bounds (R := R) (by omega) m k I
    have hs : there R m k x ≤ startOf R m k x ∧ x.s ≤ startOf R m k x ∧ (startOf R m k x = there R m k x ∨ startOf R m k x = x.s) := mx_spec _ _
    have hd : startOf R m k x + L + H ≤ dumpOf L H R m k x ∧ x.c ≤ dumpOf L H R m k x ∧ (dumpOf L H R m k x = startOf R m k x + L + H ∨ dumpOf L H R m k x = x.c) := mx_spec _ _
    have i1 := I.wait
    have i2 := I.shovel
    have i3 := I.crusher
    have i4 := I.le
    have i5 := I.idle
    have i6 := I.last
    have i7 := I.none
    have e0 : mx (there R m k x) x.s = startOf R m k x := rfl
    have e1 : mx (startOf R m k x + L + H) x.c = dumpOf L H R m k x := rfl
    simp only [cyStep] at h
    have key : impl_runCycle.j1 (K + 1) (m : Int) (n : Int) x.e x.w x.i x.s (k : Int) (there R m k x) 0 L H D R = some ((cyS L H D R m n).e, (cyS L H D R m n).w, (cyS L H D R m n).i) := by
      simp only [impl_runCycle.j1]
      by_cases hk0 : k = 0
      · have h7 := i7 hk0
        have e3 : mx (startOf R m k x + L + H) 0 = dumpOf L H R m k x := by rw [← e1, h7.2.1]
        rw [if_neg (by omega)]
        simp (disch := omega) only [w64, e0, e3]
        rw [if_pos (by omega), ← h]
        congr 1
        · omega
        · rw [if_pos hk0]; omega
      · have h6 := i6 (by omega)
        have e3 : rd x.e (wrap64 ((k : Int) - 1)) = x.c := by
          rw [w64 (by omega) (by omega), h6.2.1]
          unfold rd
          rw [show ((k : Int) - 1).toNat = k - 1 from by omega]
        rw [if_pos (by omega), if_pos (by rw [w64 (by omega) (by omega)]; omega), if_pos (by rw [w64 (by omega) (by omega)]; omega), e3]
        simp (disch := omega) only [w64, e0, e1]
        rw [if_pos (by omega), ← h]
        congr 1
        · omega
        · rw [if_neg hk0]
    simp only [impl_runCycle.l0]
    rw [if_pos (by omega)]
    by_cases hc : m ≤ k
    · have e2 : rd x.e (wrap64 ((k : Int) - (m : Int))) + R = there R m k x := by
        rw [w64 (by omega) (by omega)]
        unfold there rd
        rw [if_pos hc, show ((k : Int) - (m : Int)).toNat = k - m from by omega]
      rw [if_pos (by omega), if_pos (by rw [w64 (by omega) (by omega)]; omega), if_pos (by rw [w64 (by omega) (by omega)]; omega), e2, w64 (by omega) (by omega)]
      exact key
    · have e2 : there R m k x = 0 := by
        unfold there
        rw [if_neg hc]
      rw [if_neg (by omega)]
      rw [e2] at key
      exact key
theorem runCycle_eq {L H D R : Int} (t : Times L H D R) (m n : Nat) (hm : 1 ≤ m) (hm2 : m ≤ 12) (hn : n ≤ 200) (K : Nat) (hK : 2 * n < K) : impl_runCycle.f K L H D R (m : Int) (n : Int) = some ((cyS L H D R m n).e, (cyS L H D R m n).w, (cyS L H D R m n).i) := by
  unfold impl_runCycle.f
  exact runCycle_l0 t m n hm hm2 hn n K 0 (by omega) hK
/-- What is asked, in whole numbers. -/
theorem asked_nat {a b c d m n : Int} (h : asked a b c d m n = true) : Times a b c d ∧ ∃ m' n' : Nat, m = m' ∧ n = n' ∧ 1 ≤ m' ∧ m' ≤ 12 ∧ n' ≤ 200 := by
  obtain ⟨h1, h2, h3⟩ := (asked_iff _ _ _ _ _ _).1 h
  have h1 := (good_iff _ _ _ _).1 h1
  exact ⟨⟨h1.1, h1.2.1, h1.2.2.1, h1.2.2.2⟩, m.toNat, n.toNat, by omega, by omega, by omega, by omega, by omega⟩
theorem waiting_eq (k : Nat) (hk : 500 ≤ k) (a b c d m n : Int) : spec_WaitingTime.f k a b c d m n = some (if asked a b c d m n = true then ((cyS a b c d m.toNat n.toNat).w, true) else (0, false)) ∧ impl_WaitingTime.f k a b c d m n = some (if asked a b c d m n = true then ((cyS a b c d m.toNat n.toNat).w, true) else (0, false)) := by
  unfold spec_WaitingTime.f impl_WaitingTime.f
  rw [cyAsked_eq k (by omega), areTrucks_eq k (by omega)]
  simp only [Option.bind_some]
  by_cases h : asked a b c d m n = true
  · obtain ⟨t, m, n, rfl, rfl, hm, hm2, hn⟩ := asked_nat h
    simp only [if_pos h, cyRun_eq t m n hm hm2 hn k (by omega), runCycle_eq t m n hm hm2 hn k (by omega), Option.bind_some, Int.toNat_natCast, and_self]
  · simp only [if_neg h, and_self]
theorem idle_eq (k : Nat) (hk : 500 ≤ k) (a b c d m n : Int) : spec_ShovelIdle.f k a b c d m n = some (if asked a b c d m n = true then ((cyS a b c d m.toNat n.toNat).i, true) else (0, false)) ∧ impl_ShovelIdle.f k a b c d m n = some (if asked a b c d m n = true then ((cyS a b c d m.toNat n.toNat).i, true) else (0, false)) := by
  unfold spec_ShovelIdle.f impl_ShovelIdle.f
  rw [cyAsked_eq k (by omega), areTrucks_eq k (by omega)]
  simp only [Option.bind_some]
  by_cases h : asked a b c d m n = true
  · obtain ⟨t, m, n, rfl, rfl, hm, hm2, hn⟩ := asked_nat h
    simp only [if_pos h, cyRun_eq t m n hm hm2 hn k (by omega), runCycle_eq t m n hm hm2 hn k (by omega), Option.bind_some, Int.toNat_natCast, and_true]
    have I := cyS_inv t m n hn
    by_cases h0 : n = 0
    · subst h0
      rfl
    · have hl := I.last (by omega)
      have i1 := I.lb
      have i2 := I.begins (n - 1)
      have i3 := I.begins 0
      obtain ⟨hL, _, _, _⟩ := t
      have hnL : 0 ≤ (n : Int) * a ∧ (n : Int) * a ≤ 200 * 100 := ⟨Int.mul_nonneg (by omega) (by omega), Int.mul_le_mul (by omega) (by omega) (by omega) (by omega)⟩
      have e1 : rd (cyS a b c d m n).b (wrap64 ((n : Int) - 1)) = (cyS a b c d m n).b.getD (n - 1) 0 := by
        rw [w64 (by omega) (by omega)]
        unfold rd
        rw [show ((n : Int) - 1).toNat = n - 1 from by omega]
      have e2 : rd (cyS a b c d m n).b 0 = (cyS a b c d m n).b.getD 0 0 := rfl
      rw [if_neg (by omega), if_pos (by rw [w64 (by omega) (by omega)]; omega), if_pos (by rw [w64 (by omega) (by omega)]; omega), if_pos (by omega), e1, e2, hl.2.2]
      simp (disch := omega) only [w64]
  · simp only [if_neg h, and_self]
theorem dump_eq (k : Nat) (hk : 500 ≤ k) (a b c d m n : Int) : spec_DumpTimes.f k a b c d m n = some (if asked a b c d m n = true then ((cyS a b c d m.toNat n.toNat).e, true) else ([], false)) ∧ impl_DumpTimes.f k a b c d m n = some (if asked a b c d m n = true then ((cyS a b c d m.toNat n.toNat).e, true) else ([], false)) := by
  unfold spec_DumpTimes.f impl_DumpTimes.f
  rw [cyAsked_eq k (by omega), areTrucks_eq k (by omega)]
  simp only [Option.bind_some]
  by_cases h : asked a b c d m n = true
  · obtain ⟨t, m, n, rfl, rfl, hm, hm2, hn⟩ := asked_nat h
    simp only [if_pos h, cyRun_eq t m n hm hm2 hn k (by omega), runCycle_eq t m n hm hm2 hn k (by omega), Option.bind_some, Int.toNat_natCast, and_self]
  · simp only [if_neg h, and_self]
/-- How many ends are not behind a time: all of them lie ahead of those that are. -/
def upTo (e : List Int) (t : Int) (n : Nat) : Prop := n ≤ e.length ∧ (∀ j : Nat, j < n → e.getD j 0 ≤ t) ∧ ∀ j : Nat, n ≤ j → j < e.length → t < e.getD j 0
theorem cyLoads_l0 (t : Int) (e : List Int) (hl : e.length ≤ 1000) (hr : ∀ i j : Nat, i < j → j < e.length → e.getD i 0 ≤ e.getD j 0) : ∀ (d K i : Nat), i + d = e.length → d < K → (∀ j : Nat, j < i → e.getD j 0 ≤ t) → ∃ n : Nat, spec_cyLoads.l0 K t e (i : Int) = some (n : Int) ∧ upTo e t n := by
  intro d
  induction d with
  | zero =>
    intro K i hi hK hb
    obtain ⟨K, rfl⟩ : ∃ j, K = j + 1 := ⟨K - 1, by omega⟩
    refine ⟨i, ?_, by omega, hb, fun j h1 h2 => by omega⟩
    simp only [spec_cyLoads.l0]
    rw [if_neg (by omega)]
  | succ d ih =>
    intro K i hi hK hb
    obtain ⟨K, rfl⟩ : ∃ j, K = j + 1 := ⟨K - 1, by omega⟩
    simp only [spec_cyLoads.l0]
    rw [if_pos (by omega), if_pos (by omega), w64s (by omega)]
    have er : rd e (i : Int) = e.getD i 0 := rfl
    rw [er]
    by_cases h : e.getD i 0 ≤ t
    · rw [if_pos h]
      refine ih K (i + 1) (by omega) (by omega) fun j hj => ?_
      by_cases hji : j = i
      · rw [hji]; exact h
      · exact hb j (by omega)
    · rw [if_neg h]
      refine ⟨i, rfl, by omega, hb, fun j h1 h2 => ?_⟩
      by_cases hji : j = i
      · rw [hji]; omega
      · have := hr i j (by omega) h2
        omega
theorem loadsBy_l0 (t : Int) (e : List Int) (hl : e.length ≤ 1000) {n : Nat} (hu : upTo e t n) : ∀ (d K i : Nat), i + d = e.length → d < K → impl_LoadsBy.l0 K t ((min i n : Nat) : Int) e (e.length : Int) (i : Int) = some ((n : Int), true) := by
  intro d
  induction d with
  | zero =>
    intro K i hi hK
    obtain ⟨K, rfl⟩ : ∃ j, K = j + 1 := ⟨K - 1, by omega⟩
    have := hu.1
    simp only [impl_LoadsBy.l0]
    rw [if_neg (by omega), Nat.min_eq_right (by omega)]
  | succ d ih =>
    intro K i hi hK
    obtain ⟨K, rfl⟩ : ∃ j, K = j + 1 := ⟨K - 1, by omega⟩
    have er : rd e (i : Int) = e.getD i 0 := rfl
    simp only [impl_LoadsBy.l0]
    rw [if_pos (by omega), if_pos (by omega), if_pos (by omega), er]
    have h := ih K (i + 1) (by omega) (by omega)
    by_cases hin : i < n
    · rw [if_pos (hu.2.1 i hin), w64s (by omega), w64s (by omega), ← h]
      congr 1
      omega
    · rw [if_neg (by have := hu.2.2 i (by omega) (by omega); omega), w64s (by omega), ← h]
      congr 1
      omega
theorem rise_of {L D : Int} (hD : 1 ≤ D) {k : Nat} {x : CS} (I : CyInv L D k x) : ∀ i j : Nat, i < j → j < x.e.length → x.e.getD i 0 ≤ x.e.getD j 0 := by
  intro i j h1 h2
  have := I.rise i j h1 (by rw [← I.le]; exact h2)
  omega
/-- Both count the same loads. -/
theorem loadsBy_eq (k : Nat) (hk : 500 ≤ k) (a b c d m t : Int) : ∃ r, spec_LoadsBy.f k a b c d m t = some r ∧ impl_LoadsBy.f k a b c d m t = some r ∧ (asked a b c d m 0 = true → 0 ≤ t → t ≤ 100000 → ∃ n : Nat, r = ((n : Int), true) ∧ upTo (cyS a b c d m.toNat 200).e t n) ∧ (¬ (asked a b c d m 0 = true ∧ 0 ≤ t ∧ t ≤ 100000) → r = (0, false)) := by
  obtain ⟨k, rfl⟩ : ∃ j, k = j + 1 := ⟨k - 1, by omega⟩
  unfold spec_LoadsBy.f impl_LoadsBy.f spec_cyClock.f
  rw [cyAsked_eq (k + 1) (by omega), areTrucks_eq (k + 1) (by omega)]
  simp only [Option.bind_some, l1In_eq]
  by_cases h : asked a b c d m 0 = true
  · obtain ⟨ti, m, n, rfl, _, hm, hm2, _⟩ := asked_nat h
    rw [if_pos h, if_pos h]
    by_cases h0 : 0 ≤ t
    · by_cases h1 : t ≤ 100000
      · have I := cyS_inv ti m 200 (by omega)
        have hle : (cyS a b c d m 200).e.length ≤ 1000 := by rw [I.le]; omega
        obtain ⟨n, hn, hu⟩ := cyLoads_l0 t (cyS a b c d m 200).e hle (rise_of ti.D.1 I) (cyS a b c d m 200).e.length (k + 1) 0 (by omega) (by rw [I.le]; omega) (fun j hj => by omega)
        have hi := loadsBy_l0 t (cyS a b c d m 200).e hle hu (cyS a b c d m 200).e.length k 0 (by omega) (by rw [I.le]; omega)
        have er := cyRun_eq ti m 200 hm hm2 (by omega) (k + 1) (by omega)
        have ei := runCycle_eq ti m 200 hm hm2 (by omega) k (by omega)
        refine ⟨((n : Int), true), ?_, ?_, fun _ _ _ => ⟨n, rfl, by simpa using hu⟩, fun hx => absurd ⟨h, h0, h1⟩ hx⟩
        · rw [if_pos ((inr_iff _ _ _).2 ⟨h0, h1⟩)]
          unfold spec_cyLoads.f
          rw [show (200 : Int) = ((200 : Nat) : Int) from rfl, er]
          simp only [Option.bind_some]
          rw [show (0 : Int) = ((0 : Nat) : Int) from rfl, hn]
          rfl
        · rw [if_neg (by omega)]
          simp only [impl_LoadsBy.j0]
          rw [if_neg (by simp; omega), show (200 : Int) = ((200 : Nat) : Int) from rfl, ei]
          simp only [Option.bind_some]
          exact hi
      · refine ⟨(0, false), ?_, ?_, fun _ _ hx => absurd hx h1, fun _ => rfl⟩
        · rw [if_neg (fun hx => h1 ((inr_iff _ _ _).1 hx).2)]
        · rw [if_neg (by omega)]
          simp only [impl_LoadsBy.j0]
          rw [if_pos (by simp; omega)]
    · refine ⟨(0, false), ?_, ?_, fun _ hx => absurd hx h0, fun _ => rfl⟩
      · rw [if_neg (fun hx => h0 ((inr_iff _ _ _).1 hx).1)]
      · rw [if_pos (by omega)]
        simp only [impl_LoadsBy.j0]
        rw [if_pos trivial]
  · refine ⟨(0, false), ?_, ?_, fun hx => absurd hx h, fun _ => rfl⟩
    · rw [if_neg h]
    · rw [if_neg h]
      simp only [impl_LoadsBy.j0]
      rw [if_pos trivial]
/-! Loads of one truck follow each other by the round time. -/
/-- When load k would be dumped if the first one were at 0. -/
def beat (S P : Int) (m : Nat) : Nat → Int
  | 0 => 0
  | k + 1 => beat S P m k + (if (k + 1) % m = 0 then P - ((m : Int) * S - S) else S)
theorem beat_gap {S P : Int} {m : Nat} (h : (m : Int) * S ≤ P) (k : Nat) : beat S P m k + S ≤ beat S P m (k + 1) := by
  simp only [beat]
  split <;> omega
theorem beat_small {S P : Int} {m : Nat} : ∀ i : Nat, i < m → beat S P m i = (i : Int) * S := by
  intro i
  induction i with
  | zero => intro _; simp [beat]
  | succ i ih =>
    intro h
    simp only [beat]
    rw [ih (by omega), if_neg (by rw [Nat.mod_eq_of_lt h]; omega), show ((i + 1 : Nat) : Int) = (i : Int) + 1 from by omega, Int.add_mul, Int.one_mul]
theorem beat_round {S P : Int} {m : Nat} (hm : 1 ≤ m) : ∀ k : Nat, beat S P m (k + m) = beat S P m k + P := by
  intro k
  induction k with
  | zero =>
    obtain ⟨j, rfl⟩ : ∃ j, m = j + 1 := ⟨m - 1, by omega⟩
    rw [Nat.zero_add]
    simp only [beat]
    rw [beat_small j (by omega), if_pos (Nat.mod_self _), show ((j + 1 : Nat) : Int) = (j : Int) + 1 from by omega, Int.add_mul, Int.one_mul]
    omega
  | succ k ih =>
    rw [show k + 1 + m = (k + m) + 1 from by omega]
    simp only [beat]
    rw [ih, show k + m + 1 = k + 1 + m from by omega, Nat.add_mod_right]
    split <;> omega
structure BeatInv (L H D R S P : Int) (m k : Nat) (x : CS) : Prop where
  ends : ∀ j : Nat, j < k → x.e.getD j 0 = L + H + D + beat S P m j
  shovel : x.s ≤ beat S P m k
  exact_ : S = L → (P = (m : Int) * S ∨ k < m) → x.s = beat S P m k
theorem beat_inv {L H D R : Int} (t : Times L H D R) (m : Nat) (hm : 1 ≤ m) {S P : Int} (hS : S = mx L D) (hP : P = mx (L + H + D + R) ((m : Int) * S)) : ∀ k : Nat, k ≤ 200 → BeatInv L H D R S P m k (cyS L H D R m k) := by
  have hS2 := mx_spec L D
  have hP2 := mx_spec (L + H + D + R) ((m : Int) * S)
  rw [← hS] at hS2
  rw [← hP] at hP2
  intro k
  induction k with
  | zero => exact fun _ => ⟨fun j h => by omega, by simp [cyS, beat], fun _ _ => by simp [cyS, beat]⟩
  | succ k ih =>
    intro hk
    have I := cyS_inv t m k (by omega)
    have B := ih (by omega)
    rw [show cyS L H D R m (k + 1) = cyStep L H D R m k (cyS L H D R m k) from rfl]
    generalize cyS L H D R m k = x at I B ⊢
    obtain ⟨hL, hH, hD, hR⟩ := t
    have hs : there R m k x ≤ startOf R m k x ∧ x.s ≤ startOf R m k x ∧ (startOf R m k x = there R m k x ∨ startOf R m k x = x.s) := mx_spec _ _
    have hd : startOf R m k x + L + H ≤ dumpOf L H R m k x ∧ x.c ≤ dumpOf L H R m k x ∧ (dumpOf L H R m k x = startOf R m k x + L + H ∨ dumpOf L H R m k x = x.c) := mx_spec _ _
    have hg := beat_gap (S := S) (P := P) (m := m) hP2.2.1 k
    have h0 : 0 ≤ x.s := I.shovel.1
    have hsh := B.shovel
    have hthere : there R m k x ≤ beat S P m k ∧ (m ≤ k → P = L + H + D + R → there R m k x = beat S P m k) := by
      unfold there
      by_cases hc : m ≤ k
      · have e1 := B.ends (k - m) (by omega)
        have e2 := beat_round (S := S) (P := P) hm (k - m)
        rw [show k - m + m = k from by omega] at e2
        rw [if_pos hc, e1]
        exact ⟨by omega, fun _ _ => by omega⟩
      · rw [if_neg hc]
        exact ⟨by omega, fun h => absurd h hc⟩
    have hcr : k = 0 ∧ x.c = 0 ∧ beat S P m k = 0 ∨ 1 ≤ k ∧ x.c = L + H + D + beat S P m (k - 1) ∧ beat S P m (k - 1) + S ≤ beat S P m k ∧ ((k < m ∨ P = (m : Int) * S) → beat S P m k = beat S P m (k - 1) + S) := by
      by_cases hk0 : k = 0
      · subst hk0
        exact .inl ⟨rfl, (I.none rfl).2.1, rfl⟩
      · obtain ⟨j, rfl⟩ : ∃ j, k = j + 1 := ⟨k - 1, by omega⟩
        refine .inr ⟨by omega, ?_, beat_gap hP2.2.1 j, fun h => ?_⟩
        · rw [(I.last (by omega)).2.1]
          exact B.ends j (by omega)
        · simp only [beat, Nat.add_sub_cancel]
          rcases h with h | h
          · rw [if_neg (by rw [Nat.mod_eq_of_lt h]; omega)]
          · split <;> omega
    have hsx := B.exact_
    have hend : dumpOf L H R m k x = L + H + beat S P m k := by
      rcases hcr with ⟨k0, c0, b0⟩ | ⟨k1, c1, c2, c3⟩
      · omega
      · by_cases hkm : m ≤ k ∧ P = L + H + D + R
        · have := hthere.2 hkm.1 hkm.2
          omega
        · have h5 : k < m ∨ P = (m : Int) * S := by omega
          have h6 := c3 h5
          by_cases hSL : S = L
          · have := hsx hSL (by omega)
            omega
          · omega
    refine ⟨fun j hj => ?_, ?_, fun hSL hor => ?_⟩
    · simp only [cyStep, getD_snoc, I.le]
      by_cases hjk : j = k
      · rw [if_pos hjk, hend, hjk]
        omega
      · rw [if_neg hjk]
        exact B.ends j (by omega)
    · simp only [cyStep]
      omega
    · have := hsx hSL (by omega)
      have e3 : beat S P m (k + 1) = beat S P m k + S := by
        simp only [beat]
        rcases hor with h | h
        · split <;> omega
        · rw [if_neg (by rw [Nat.mod_eq_of_lt h]; omega)]
      simp only [cyStep]
      omega

/-! The draws: every byte string gives some numbers. -/
def bytes (l : List Int) : Prop := ∀ x ∈ l, 0 ≤ x ∧ x ≤ 255
theorem bytes_of {l : List Int} (h : ∀ x ∈ l, (Lit.int .u8 x).wf = true) : bytes l := by
  exact fun x hx => bounds_u8 (h x hx)
theorem and255 (a : Int) : 0 ≤ Go.bits .and .u64 (IntKind.u64.wrap a / 1099511627776) 255 ∧ Go.bits .and .u64 (IntKind.u64.wrap a / 1099511627776) 255 ≤ 255 := by
  have hw : 0 ≤ IntKind.u64.wrap a ∧ IntKind.u64.wrap a ≤ 18446744073709551615 := bounds_u64 (wf_wrap .u64 a)
  obtain ⟨n, hn⟩ : ∃ n : Nat, IntKind.u64.wrap a / 1099511627776 = (n : Int) := ⟨(IntKind.u64.wrap a / 1099511627776).toNat, by omega⟩
  rw [hn, show (255 : Int) = ((255 : Nat) : Int) from rfl, bits_and_u64_nat n 255 (by omega) (by omega)]
  have := Nat.and_le_right (n := n) (m := 255)
  omega
theorem next_ok {l : List Int} (hl : bytes l) (hn : l.length ≤ maxLen) {p : Int} (s : Int) (h0 : 0 ≤ p) (h1 : p ≤ 4000000000000000000) : ∃ b s', spec_l1Cur_next.f l p s = some (b, p + 1, s') ∧ 0 ≤ b ∧ b ≤ 255 := by
  unfold maxLen at hn
  unfold spec_l1Cur_next.f
  rw [w64 (x := p + 1) (by omega) (by omega)]
  have ha : ∀ a : Int, 0 ≤ wrap64 (Go.bits .and .u64 (IntKind.u64.wrap a / 1099511627776) 255) ∧ wrap64 (Go.bits .and .u64 (IntKind.u64.wrap a / 1099511627776) 255) ≤ 255 := by
    intro a
    have := and255 a
    rw [w64 (by omega) (by omega)]
    exact this
  by_cases c : p < (l.length : Int)
  · obtain ⟨q, rfl⟩ : ∃ q : Nat, p = (q : Int) := ⟨p.toNat, by omega⟩
    have hb := hl _ (List.getElem_mem (by omega : q < l.length))
    rw [if_pos c, if_pos h0, rd_nat l q (by omega)]
    have e : wrap64 l[q] = l[q] := w64 (by omega) (by omega)
    split
    · exact ⟨_, _, rfl, by rw [e]; exact hb.1, by rw [e]; exact hb.2⟩
    · exact ⟨_, _, rfl, (ha _).1, (ha _).2⟩
  · rw [if_neg c]
    split
    · exact ⟨_, _, rfl, by omega, by omega⟩
    · exact ⟨_, _, rfl, (ha _).1, (ha _).2⟩
theorem pick_ok {l : List Int} (hl : bytes l) (hn : l.length ≤ maxLen) {p : Int} (s n : Int) (h0 : 0 ≤ p) (h1 : p ≤ 4000000000000000000 - 2) : ∃ x p' s', spec_l1Cur_pick.f l p s n = some (x, p', s') ∧ 0 ≤ x ∧ (x < n ∨ x = 0) ∧ x ≤ 65535 ∧ p ≤ p' ∧ p' ≤ p + 2 := by
  unfold spec_l1Cur_pick.f
  by_cases c : n ≤ 1
  · rw [if_pos c]
    exact ⟨_, _, _, rfl, by omega, .inr rfl, by omega, by omega, by omega⟩
  · rw [if_neg c]
    obtain ⟨b, s1, e1, b0, b1⟩ := next_ok hl hn s h0 (by omega)
    rw [e1]
    simp only [Option.bind_some]
    by_cases c2 : n > 200
    · obtain ⟨b', s2, e2, b2, b3⟩ := next_ok hl hn s1 (p := p + 1) (by omega) (by omega)
      rw [if_pos c2, e2]
      simp only [Option.bind_some]
      rw [if_neg (by omega), w64 (x := b * 256) (by omega) (by omega), w64 (by omega) (by omega), Int.tmod_eq_emod_of_nonneg (by omega)]
      have := Int.emod_nonneg (b * 256 + b') (b := n) (by omega)
      have := Int.emod_lt_of_pos (b * 256 + b') (b := n) (by omega)
      have := Int.mul_ediv_add_emod (b * 256 + b') n
      have := Int.mul_nonneg (a := n) (b := (b * 256 + b') / n) (by omega) (Int.ediv_nonneg (by omega) (by omega))
      exact ⟨_, _, _, rfl, by omega, .inl (by omega), by omega, by omega, by omega⟩
    · rw [if_neg c2, if_neg (by omega), Int.tmod_eq_emod_of_nonneg (by omega)]
      have := Int.emod_nonneg b (b := n) (by omega)
      have := Int.emod_lt_of_pos b (b := n) (by omega)
      exact ⟨_, _, _, rfl, by omega, .inl (by omega), by omega, by omega, by omega⟩
theorem among_ok {l : List Int} (hl : bytes l) (hn : l.length ≤ maxLen) {p : Int} (s : Int) (xs : List Int) (hx : xs ≠ []) (h0 : 0 ≤ p) (h1 : p ≤ 4000000000000000000 - 2) : ∃ x p' s', spec_l1Cur_among.f l p s xs = some (x, p', s') ∧ x ∈ xs ∧ p ≤ p' ∧ p' ≤ p + 2 := by
  unfold spec_l1Cur_among.f
  obtain ⟨x, p', s', e, x0, x1, _, p0, p1⟩ := pick_ok hl hn s (xs.length : Int) h0 h1
  have hp := List.length_pos_iff.2 hx
  obtain ⟨q, rfl⟩ : ∃ q : Nat, x = (q : Int) := ⟨x.toNat, by omega⟩
  rw [e]
  simp only [Option.bind_some]
  rw [if_pos x0, if_pos (by omega), rd_nat xs q (by omega)]
  exact ⟨_, _, _, rfl, List.getElem_mem _, p0, p1⟩

theorem cycle_ok {l : List Int} (hl : bytes l) (hn : l.length ≤ maxLen) {p : Int} (s : Int) (h0 : 0 ≤ p) (h1 : p ≤ 3000000000000000000) : ∃ a b c d p' s', spec_l1Cur_cycle.f l p s = some (a, b, c, d, p', s') ∧ p ≤ p' ∧ p' ≤ p + 20 := by
  unfold spec_l1Cur_cycle.f
  obtain ⟨x1, p1, s1, e1, _, _, _, q1, r1⟩ := pick_ok hl hn s 9 h0 (by omega)
  obtain ⟨x2, p2, s2, e2, _, _, _, q2, r2⟩ := pick_ok hl hn s1 30 (p := p1) (by omega) (by omega)
  obtain ⟨x3, p3, s3, e3, _, _, _, q3, r3⟩ := pick_ok hl hn s2 6 (p := p2) (by omega) (by omega)
  obtain ⟨x4, p4, s4, e4, _, _, _, q4, r4⟩ := pick_ok hl hn s3 25 (p := p3) (by omega) (by omega)
  obtain ⟨x5, p5, s5, e5, _, _, _, q5, r5⟩ := pick_ok hl hn s4 24 (p := p4) (by omega) (by omega)
  obtain ⟨x6, p6, s6, e6, _, q6, r6⟩ := among_ok hl hn s5 [0, 100, 101] (by simp) (p := p5) (by omega) (by omega)
  simp only [e1, e2, e3, e4, e5, e6, Option.bind_some]
  by_cases c0 : x5 = 0
  · rw [if_pos c0]; exact ⟨_, _, _, _, _, _, rfl, by omega, by omega⟩
  · rw [if_neg c0]
    by_cases c1 : x5 = 1
    · rw [if_pos c1]; exact ⟨_, _, _, _, _, _, rfl, by omega, by omega⟩
    · rw [if_neg c1]
      by_cases c2 : x5 = 2
      · rw [if_pos c2]; exact ⟨_, _, _, _, _, _, rfl, by omega, by omega⟩
      · rw [if_neg c2]
        by_cases c3 : x5 = 3
        · rw [if_pos c3]; exact ⟨_, _, _, _, _, _, rfl, by omega, by omega⟩
        · rw [if_neg c3]; exact ⟨_, _, _, _, _, _, rfl, by omega, by omega⟩
theorem trucks_ok {l : List Int} (hl : bytes l) (hn : l.length ≤ maxLen) {p : Int} (s : Int) (h0 : 0 ≤ p) (h1 : p ≤ 3000000000000000000) : ∃ x p' s', spec_l1Cur_trucks.f l p s = some (x, p', s') ∧ p ≤ p' ∧ p' ≤ p + 2 := by
  unfold spec_l1Cur_trucks.f
  obtain ⟨x, p', s', e, _, q, r⟩ := among_ok hl hn s [1, 2, 3, 4, 6, 8, 12, 13, 0] (by simp) h0 (by omega)
  rw [e]; exact ⟨_, _, _, rfl, q, r⟩
theorem loads_ok {l : List Int} (hl : bytes l) (hn : l.length ≤ maxLen) {p : Int} (s : Int) (h0 : 0 ≤ p) (h1 : p ≤ 3000000000000000000) : ∃ x p' s', spec_l1Cur_loads.f l p s = some (x, p', s') ∧ p ≤ p' ∧ p' ≤ p + 2 := by
  unfold spec_l1Cur_loads.f
  obtain ⟨x, p', s', e, _, q, r⟩ := among_ok hl hn s [0, 1, 2, 5, 12, 40, 200, 201, (-1)] (by simp) h0 (by omega)
  rw [e]; exact ⟨_, _, _, rfl, q, r⟩
theorem drawDump_ok {l : List Int} (hl : bytes l) (hn : l.length ≤ maxLen) : ∃ a b c d m n, spec_DrawDumpTimes.f l = some (a, b, c, d, m, n) := by
  unfold spec_DrawDumpTimes.f
  obtain ⟨a, b, c, d, p1, s1, e1, q1, r1⟩ := cycle_ok hl hn 0 (p := 0) (by omega) (by omega)
  obtain ⟨m, p2, s2, e2, q2, r2⟩ := trucks_ok hl hn s1 (p := p1) (by omega) (by omega)
  obtain ⟨n, p3, s3, e3, q3, r3⟩ := loads_ok hl hn s2 (p := p2) (by omega) (by omega)
  simp only [e1, e2, e3, Option.bind_some]
  exact ⟨_, _, _, _, _, _, rfl⟩
theorem drawLoads_ok {l : List Int} (hl : bytes l) (hn : l.length ≤ maxLen) : ∃ a b c d m n, spec_DrawLoadsBy.f l = some (a, b, c, d, m, n) := by
  unfold spec_DrawLoadsBy.f
  obtain ⟨a, b, c, d, p1, s1, e1, q1, r1⟩ := cycle_ok hl hn 0 (p := 0) (by omega) (by omega)
  obtain ⟨m, p2, s2, e2, q2, r2⟩ := trucks_ok hl hn s1 (p := p1) (by omega) (by omega)
  obtain ⟨x, p3, s3, e3, _, _, _, q3, r3⟩ := pick_ok hl hn s2 900 (p := p2) (by omega) (by omega)
  obtain ⟨n, p4, s4, e4, _, q4, r4⟩ := among_ok hl hn s3 [0, 20, 100, x, 100000, 100001, -1] (by simp) (p := p3) (by omega) (by omega)
  simp only [e1, e2, e3, e4, Option.bind_some]
  exact ⟨_, _, _, _, _, _, rfl⟩
theorem qInts_l0 (l : List Int) (hl : l.length ≤ 9000000000000000000) : ∀ (d k i : Nat), i + d = l.length → d < k → laws_qInts.l0 k l l (l.length : Int) (i : Int) = some true := by
  intro d
  induction d with
  | zero =>
    intro k i hi' hk
    obtain ⟨k, rfl⟩ : ∃ m, k = m + 1 := ⟨k - 1, by omega⟩
    simp only [laws_qInts.l0]
    rw [if_neg (by omega)]
  | succ d ih =>
    intro k i hi' hk
    obtain ⟨k, rfl⟩ : ∃ m, k = m + 1 := ⟨k - 1, by omega⟩
    simp only [laws_qInts.l0]
    rw [if_pos (by omega), if_pos (by omega), if_pos (by omega), if_pos (by omega), if_pos trivial, w64s (by omega)]
    exact ih k (i + 1) (by omega) (by omega)
theorem qInts_self (l : List Int) (hl : l.length ≤ 9000000000000000000) (k : Nat) (hk : l.length < k) : laws_qInts.f k l l = some true := by
  unfold laws_qInts.f
  rw [if_pos rfl]
  exact qInts_l0 l hl l.length k 0 (by omega) hk

/-- The greater one of the cycle's time and of what the slower place needs for all trucks. -/
def roundOf (a b c d m : Int) : Int := mx (a + b + c + d) (m * mx a c)
theorem slow_times {a b c d m n : Int} (h : asked a b c d m n = true) : 1 ≤ mx a c ∧ mx a c ≤ 100 ∧ 1 ≤ m * mx a c ∧ m * mx a c ≤ 1200 ∧ wrap64 (m * mx a c) = m * mx a c := by
  obtain ⟨h1, h2, _⟩ := (asked_iff _ _ _ _ _ _).1 h
  have h1 := (good_iff _ _ _ _).1 h1
  have hm := mx_spec a c
  have h3 : 1 ≤ mx a c := by omega
  have h4 : mx a c ≤ 100 := by omega
  have h5 : 1 * 1 ≤ m * mx a c := Int.mul_le_mul (by omega) h3 (by omega) (by omega)
  have h6 : m * mx a c ≤ 12 * 100 := Int.mul_le_mul (by omega) h4 (by omega) (by omega)
  exact ⟨h3, h4, by omega, by omega, w64 (by omega) (by omega)⟩
theorem implRoundTime_eq (k : Nat) (hk : 10 ≤ k) (a b c d m : Int) : impl_RoundTime.f k a b c d m = some (if asked a b c d m 0 = true then (roundOf a b c d m, true) else (0, false)) := by
  unfold impl_RoundTime.f roundOf
  rw [areTrucks_eq k hk]
  simp only [Option.bind_some]
  by_cases h : asked a b c d m 0 = true
  · have hg := ((asked_iff _ _ _ _ _ _).1 h).1
    rw [if_pos h, if_pos h, implTime_eq hg]
    simp only [Option.bind_some]
    rw [(slow_times h).2.2.2.2]
  · rw [if_neg h, if_neg h]
theorem implCycleTime_eq (k : Nat) (hk : 10 ≤ k) (a b c d : Int) : impl_CycleTime.f k a b c d = some (if good a b c d = true then (a + b + c + d, true) else (0, false)) := by
  unfold impl_CycleTime.f
  rw [implIsCycle_eq k hk]
  simp only [Option.bind_some]
  by_cases h : good a b c d = true
  · rw [if_pos h, if_pos h, implTime_eq h]; rfl
  · rw [if_neg h, if_neg h]
theorem cycles_l0 {a b c d : Int} (t : Times a b c d) (m n : Nat) (hm : 1 ≤ m) (hm2 : m ≤ 12) (hn : n ≤ 200) : ∀ (dd K i : Nat), i + dd = n → dd < K → laws_FnCycles.l0 K (m : Int) (cyS a b c d m n).e (roundOf a b c d m) (a + b + c + d) (cyS a b c d m n).e (((cyS a b c d m n).e.length : Nat) : Int) (i : Int) a b c d = some true := by
  have B := beat_inv t m hm (S := mx a c) (P := roundOf a b c d m) rfl rfl n hn
  have I := cyS_inv t m n hn
  have hP := mx_spec (a + b + c + d) ((m : Int) * mx a c)
  have hS := mx_spec a c
  have hPb : roundOf a b c d m ≤ 1200 ∧ (m : Int) * mx a c ≤ roundOf a b c d m ∧ a + b + c + d ≤ roundOf a b c d m := by
    have h6 : (m : Int) * mx a c ≤ 12 * 100 := Int.mul_le_mul (by omega) (by obtain ⟨h1, _, h2, _⟩ := t; omega) (by obtain ⟨h1, _, h2, _⟩ := t; omega) (by omega)
    unfold roundOf
    obtain ⟨h1, h2, h3, h4⟩ := t
    omega
  generalize hPd : roundOf a b c d m = P at B hPb
  generalize hSd : mx a c = S at B hS hPb
  have hb := fun j => I.ends j
  have hc := I.crusher
  have hle := I.le
  have hends := B.ends
  generalize (cyS a b c d m n).e = e at hb hle hends
  clear B I hP
  intro dd
  induction dd with
  | zero =>
    intro K i hi hK
    obtain ⟨K, rfl⟩ : ∃ j, K = j + 1 := ⟨K - 1, by omega⟩
    simp only [laws_FnCycles.l0]
    rw [if_neg (by omega)]
    simp only [ge_iff_le, Option.some.injEq, decide_eq_true_eq]
    omega
  | succ dd ih =>
    intro K i hi hK
    obtain ⟨K, rfl⟩ : ∃ j, K = j + 1 := ⟨K - 1, by omega⟩
    obtain ⟨hL, hH, hD, hR⟩ := t
    have er : ∀ j : Nat, rd e (j : Int) = e.getD j 0 := fun j => rfl
    have hi1 := hends i (by omega)
    have hbi := hb i
    have next := ih K (i + 1) (by omega) (by omega)
    have tail : (if (i : Int) ≥ (m : Int) then (if 0 ≤ (wrap64 ((i : Int) - (m : Int))) then (if (wrap64 ((i : Int) - (m : Int))) < (e.length : Int) then (if (wrap64 ((rd e (i : Int)) - (rd e (wrap64 ((i : Int) - (m : Int)))))) = P then (laws_FnCycles.l0 K (m : Int) e P (a + b + c + d) e (e.length : Int) (wrap64 ((i : Int) + 1)) a b c d) else (none)) else (none)) else (none)) else (laws_FnCycles.l0 K (m : Int) e P (a + b + c + d) e (e.length : Int) (wrap64 ((i : Int) + 1)) a b c d)) = some true := by
      rw [w64s (by omega), next]
      by_cases hc : m ≤ i
      · have e2 := beat_round (S := S) (P := P) hm (i - m)
        rw [show i - m + m = i from by omega] at e2
        have e3 := hends (i - m) (by omega)
        have e4 := hb (i - m)
        rw [if_pos (by omega), w64 (x := (i : Int) - (m : Int)) (by omega) (by omega), show (i : Int) - (m : Int) = ((i - m : Nat) : Int) from by omega, er, er, if_pos (by omega), if_pos (by omega), w64 (by omega) (by omega), if_pos (by omega)]
      · rw [if_neg (by omega)]
    simp only [laws_FnCycles.l0]
    rw [if_pos (by omega), if_pos (by omega), if_pos (by omega)]
    by_cases h0 : i = 0
    · subst h0
      have e5 : rd e ((0 : Nat) : Int) = wrap64 (wrap64 (a + b) + c) := by
        rw [er, hi1, w64 (x := a + b) (by omega) (by omega), w64 (by omega) (by omega)]
        simp [beat]
      rw [if_pos (by rfl), if_pos e5, if_neg (by omega)]
      exact tail
    · obtain ⟨j, rfl⟩ : ∃ j, i = j + 1 := ⟨i - 1, by omega⟩
      have e6 := hends j (by omega)
      have e7 := hb j
      have e8 := beat_gap hPb.2.1 j
      rw [if_neg (by omega), if_pos (by omega), w64 (x := ((j + 1 : Nat) : Int) - 1) (by omega) (by omega), show ((j + 1 : Nat) : Int) - 1 = ((j : Nat) : Int) from by omega, if_pos (by omega), if_pos (by omega), if_neg (by rw [er, er, w64 (by omega) (by omega)]; omega)]
      exact tail
theorem FnCycles : laws_FnCycles.Pure := by
  intro l0 l1 h1 _ hw1 h2 _ hw2
  obtain ⟨a, b, c, d, m, n, e1⟩ := drawDump_ok (bytes_of hw1) h1
  obtain ⟨a', b', c', d', m', t, e2⟩ := drawLoads_ok (bytes_of hw2) h2
  refine ⟨1000, ?_⟩
  unfold laws_FnCycles.f
  by_cases c0 : wrap64 ((l0.length : Int) + (l1.length : Int)) > 1048576
  · rw [if_pos c0]
  rw [if_neg c0, e1]
  simp only [Option.bind_some]
  have hd := dump_eq 1000 (by omega) a b c d m n
  have hw := waiting_eq 1000 (by omega) a b c d m n
  have hi := idle_eq 1000 (by omega) a b c d m n
  obtain ⟨r, hr1, hr2, hr3, hr4⟩ := loadsBy_eq 1000 (by omega) a' b' c' d' m' t
  rw [hd.1, hd.2, hw.1, hw.2, hi.1, hi.2, e2]
  simp only [Option.bind_some]
  rw [hr1, hr2]
  simp only [Option.bind_some]
  rw [implIsCycle_eq 1000 (by omega), specIsCycle_eq 1000 (by omega)]
  simp only [Option.bind_some, bne_self_eq_false, Bool.false_eq_true, if_false, if_true]
  -- what the first reader asks
  have hfirst : ∀ (K : Nat), 700 ≤ K → ∀ (x9 : Bool) (x10 : List Int) (x14 x18 : Int), (asked a b c d m n = true → x9 = true ∧ x10 = (cyS a b c d m.toNat n.toNat).e ∧ x14 = (cyS a b c d m.toNat n.toNat).w ∧ x18 = (cyS a b c d m.toNat n.toNat).i) → (¬ asked a b c d m n = true → x9 = false) → laws_FnCycles.j1 K m n x9 x10 x14 x18 a b c d = some true := by
    intro K hK x9 x10 x14 x18 y1 y2
    obtain ⟨K, rfl⟩ : ∃ j, K = j + 1 := ⟨K - 1, by omega⟩
    simp only [laws_FnCycles.j1]
    by_cases A : asked a b c d m n = true
    · obtain ⟨rfl, rfl, rfl, rfl⟩ := y1 A
      have A0 : asked a b c d m 0 = true := by
        have := (asked_iff _ _ _ _ _ _).1 A
        exact (asked_iff _ _ _ _ _ _).2 ⟨this.1, this.2.1, by omega⟩
      have hg := ((asked_iff _ _ _ _ _ _).1 A).1
      rw [if_pos rfl, implRoundTime_eq K (by omega), implCycleTime_eq K (by omega), if_pos A0, if_pos hg]
      obtain ⟨ti, m, n, rfl, rfl, hm, hm2, hn⟩ := asked_nat A
      have I := cyS_inv ti m n hn
      have hle := I.le
      simp only [Option.bind_some, if_true, Int.toNat_natCast]
      rw [if_neg (by have := I.idle; omega), if_neg (by have := I.wait; omega)]
      obtain ⟨K, rfl⟩ : ∃ j, K = j + 1 := ⟨K - 1, by omega⟩
      simp only [laws_FnCycles.j2]
      rw [if_neg (by simp; omega)]
      exact cycles_l0 ti m n hm hm2 hn n K 0 (by omega) (by omega)
    · obtain rfl := y2 A
      rw [if_neg (by simp)]
  generalize hx : (if asked a b c d m n = true then ((cyS a b c d m.toNat n.toNat).e, true) else ([], false)) = X
  generalize hy : (if asked a b c d m n = true then ((cyS a b c d m.toNat n.toNat).w, true) else (0, false)) = Y
  generalize hz : (if asked a b c d m n = true then ((cyS a b c d m.toNat n.toNat).i, true) else (0, false)) = Z
  have hlen : X.1.length ≤ 200 := by
    rw [← hx]
    by_cases A : asked a b c d m n = true
    · obtain ⟨ti, m, n, rfl, rfl, hm, hm2, hn⟩ := asked_nat A
      have := (cyS_inv ti m n hn).le
      rw [if_pos A]
      simp only [Int.toNat_natCast]
      omega
    · rw [if_neg A]
      simp
  have hok : Y.2 = X.2 ∧ Z.2 = X.2 := by
    rw [← hx, ← hy, ← hz]
    by_cases A : asked a b c d m n = true
    · simp only [if_pos A, and_self]
    · simp only [if_neg A, and_self]
  have hlast : ∀ (K : Nat), 700 ≤ K → laws_FnCycles.j1 K m n X.2 X.1 Y.1 Z.1 a b c d = some true := by
    intro K hK
    refine hfirst K hK _ _ _ _ (fun A => ?_) (fun A => ?_)
    · rw [← hx, ← hy, ← hz]
      simp only [if_pos A, and_self]
    · rw [← hx]
      simp only [if_neg A]
  rw [qInts_self X.1 (by omega) 1000 (by omega)]
  simp only [Option.bind_some, if_true, hok.1, hok.2, bne_self_eq_false, Bool.false_eq_true, if_false]
  simp only [laws_FnCycles.j0, Bool.false_eq_true, if_false]
  by_cases B : asked a' b' c' d' m' 0 = true ∧ 0 ≤ t ∧ t ≤ 100000
  · obtain ⟨q, rfl, hu⟩ := hr3 B.1 B.2.1 B.2.2
    have A2 : asked a' b' c' d' m' 200 = true := by
      have := (asked_iff _ _ _ _ _ _).1 B.1
      exact (asked_iff _ _ _ _ _ _).2 ⟨this.1, this.2.1, by omega⟩
    have hd2 := dump_eq 999 (by omega) a' b' c' d' m' 200
    rw [if_pos A2] at hd2
    obtain ⟨ti, m', _, rfl, _, hm, hm2, _⟩ := asked_nat A2
    have I := cyS_inv ti m' 200 (by omega)
    have hle := I.le
    simp only [Int.toNat_natCast, show ((200 : Int).toNat) = 200 from rfl] at hd2 hu
    rw [if_pos rfl, hd2.1, hd2.2]
    simp only [Option.bind_some, if_true]
    rw [qInts_self _ (by omega) 999 (by omega)]
    simp only [Option.bind_some, if_true]
    have hJ := hlast 999 (by omega)
    generalize (cyS a' b' c' d' m' 200).e = e at hu hle
    have hq := hu.1
    have er : ∀ j : Nat, rd e (j : Int) = e.getD j 0 := fun j => rfl
    have tail : (if (q : Int) < (e.length : Int) then (if 0 ≤ (q : Int) then (if (rd e (q : Int)) ≤ t then (none) else (laws_FnCycles.j1 999 m n X.2 X.1 Y.1 Z.1 a b c d)) else (none)) else (laws_FnCycles.j1 999 m n X.2 X.1 Y.1 Z.1 a b c d)) = some true := by
      rw [hJ]
      by_cases h : q < e.length
      · have := hu.2.2 q (Nat.le_refl _) h
        rw [if_pos (by omega), if_pos (by omega), if_neg (by rw [er]; omega)]
      · rw [if_neg (by omega)]
    by_cases h : 0 < q
    · have := hu.2.1 (q - 1) (by omega)
      rw [if_pos (by omega), w64 (x := (q : Int) - 1) (by omega) (by omega), show (q : Int) - 1 = ((q - 1 : Nat) : Int) from by omega, if_pos (by omega), if_pos (by omega), if_neg (by rw [er]; omega)]
      exact tail
    · rw [if_neg (by omega)]
      exact tail
  · obtain rfl := hr4 B
    simp only [Bool.false_eq_true, if_false]
    exact hlast 999 (by omega)

end Go.Proofs.Ytociipogjmidiaa.Pure
