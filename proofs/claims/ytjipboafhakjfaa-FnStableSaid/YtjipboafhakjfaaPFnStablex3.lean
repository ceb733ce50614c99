/- Text written by a program for this claim: contracts of the functions of one law. -/
import Derived.Test.YtjipboafhakjfaaPFnStablex0
import Derived.Test.YtjipboafhakjfaaPFnStablex2
namespace Go.Proofs.Ytjipboafhakjfaa.PFnStable
open Go.RowKit Go.Proofs.YtjipboafhakjfaaW.PrintWords Go.Proofs.YtjipboafhakjfaaW.PrintLast Go.Proofs.YtjipboafhakjfaaW.PrintMore
attribute [local go_sem] max2_int min2_int max_two min_two max_three min_three max_four min_four   -- for this text's walks alone
set_option linter.unusedVariables false
set_option linter.unusedSimpArgs false
open ShortPFnStable0
namespace ShortPFnStable3
abbrev m0_ : Array Bool := #[Z,Z,Z,Z,Z,Z,Z,Z,Z,Z,Z,Z,Z,Z,Z,Z,Z,Z,Z,Z,Z,Z,Z,Z,Z,Z,Z,Z,Z,Z,Z,Z,Z,Z]
abbrev m1_ : Array Bool := #[Y,Z,Z,Z,Z,Z,Z,Z,Z,Z,Z,Z,Z,Z,Z,Z,Z,Z,Z,Z,Z,Z,Z,Z,Z,Z,Z,Z,Z,Z,Z,Z,Z,Z]
abbrev m2_ : Array Bool := #[Y,Y,Z,Z,Z,Z,Z,Z,Z,Z,Z,Z,Z,Z,Z,Z,Z,Z,Z,Z,Z,Z,Z,Z,Z,Z,Z,Z,Z,Z,Z,Z,Z,Z]
abbrev m3_ : Array Bool := #[Y,Y,Y,Z,Z,Z,Z,Z,Z,Z,Z,Z,Z,Z,Z,Z,Z,Z,Z,Z,Z,Z,Z,Z,Z,Z,Z,Z,Z,Z,Z,Z,Z,Z]
abbrev m4_ : Array Bool := #[Y,Y,Y,Z,Y,Z,Z,Z,Z,Z,Z,Z,Z,Z,Z,Z,Z,Z,Z,Z,Z,Z,Z,Z,Z,Z,Z,Z,Z,Z,Z,Z,Z,Z]
abbrev m5_ : Array Bool := #[Y,Y,Y,Z,Y,Z,Y,Z,Z,Z,Z,Z,Z,Z,Z,Z,Z,Z,Z,Z,Z,Z,Z,Z,Z,Z,Z,Z,Z,Z,Z,Z,Z,Z]
abbrev m6_ : Array Bool := #[Y,Y,Y,Z,Y,Z,Y,Y,Z,Z,Z,Z,Z,Z,Z,Z,Z,Z,Z,Z,Z,Z,Z,Z,Z,Z,Z,Z,Z,Z,Z,Z,Z,Z]
abbrev m7_ : Array Bool := #[Y,Y,Y,Z,Y,Z,Y,Y,Y,Z,Z,Z,Z,Z,Z,Z,Z,Z,Z,Z,Z,Z,Z,Z,Z,Z,Z,Z,Z,Z,Z,Z,Z,Z]
abbrev m8_ : Array Bool := #[Y,Y,Y,Z,Y,Z,Y,Y,Y,Z,Y,Z,Z,Z,Z,Z,Z,Z,Z,Z,Z,Z,Z,Z,Z,Z,Z,Z,Z,Z,Z,Z,Z,Z]
abbrev m9_ : Array Bool := #[Y,Y,Y,Z,Y,Z,Y,Y,Y,Z,Y,Y,Z,Z,Z,Z,Z,Z,Z,Z,Z,Z,Z,Z,Z,Z,Z,Z,Z,Z,Z,Z,Z,Z]
abbrev m10_ : Array Bool := #[Y,Y,Y,Z,Y,Z,Y,Y,Y,Z,Y,Y,Y,Z,Z,Z,Z,Z,Z,Z,Z,Z,Z,Z,Z,Z,Z,Z,Z,Z,Z,Z,Z,Z]
abbrev m11_ : Array Bool := #[Y,Y,Y,Y,Y,Z,Y,Y,Y,Z,Y,Y,Y,Z,Z,Z,Z,Z,Z,Z,Z,Z,Z,Z,Z,Z,Z,Z,Z,Z,Z,Z,Z,Z]
abbrev m12_ : Array Bool := #[Y,Y,Y,Y,Y,Z,Y,Y,Y,Y,Y,Y,Y,Z,Z,Z,Z,Z,Z,Z,Z,Z,Z,Z,Z,Z,Z,Z,Z,Z,Z,Z,Z,Z]
abbrev m13_ : Array Bool := #[Y,Y,Y,Y,Y,Z,Y,Y,Y,Y,Y,Y,Y,Y,Z,Z,Z,Z,Z,Z,Z,Z,Z,Z,Z,Z,Z,Z,Z,Z,Z,Z,Z,Z]
abbrev m14_ : Array Bool := #[Y,Y,Y,Y,Y,Y,Y,Y,Y,Y,Y,Y,Y,Y,Z,Z,Z,Z,Z,Z,Z,Z,Z,Z,Z,Z,Z,Z,Z,Z,Z,Z,Z,Z]
abbrev m15_ : Array Bool := #[Y,Y,Y,Y,Y,Y,Y,Y,Y,Y,Y,Y,Y,Y,Y,Z,Z,Z,Z,Z,Z,Z,Z,Z,Z,Z,Z,Z,Z,Z,Z,Z,Z,Z]
abbrev m16_ : Array Bool := #[Y,Y,Y,Y,Y,Y,Y,Y,Y,Y,Y,Y,Y,Y,Y,Y,Z,Z,Z,Z,Z,Z,Z,Z,Z,Z,Z,Z,Z,Z,Z,Z,Z,Z]
abbrev m17_ : Array Bool := #[Y,Y,Y,Y,Y,Y,Y,Y,Y,Y,Y,Y,Y,Y,Y,Y,Y,Z,Z,Z,Z,Z,Z,Z,Z,Z,Z,Z,Z,Z,Z,Z,Z,Z]
abbrev m18_ : Array Bool := #[Y,Y,Y,Y,Y,Y,Y,Y,Y,Y,Y,Y,Y,Y,Y,Y,Y,Y,Z,Z,Z,Z,Z,Z,Z,Z,Z,Z,Z,Z,Z,Z,Z,Z]
abbrev m19_ : Array Bool := #[Y,Y,Y,Y,Y,Y,Y,Y,Y,Y,Y,Y,Y,Y,Y,Y,Y,Y,Y,Z,Z,Z,Z,Z,Z,Z,Z,Z,Z,Z,Z,Z,Z,Z]
abbrev m20_ : Array Bool := #[Y,Y,Y,Y,Y,Y,Y,Y,Y,Y,Y,Y,Y,Y,Y,Y,Y,Y,Y,Y,Z,Z,Z,Z,Z,Z,Z,Z,Z,Z,Z,Z,Z,Z]
abbrev m21_ : Array Bool := #[Y,Y,Y,Y,Y,Y,Y,Y,Y,Y,Y,Y,Y,Y,Y,Y,Y,Y,Y,Y,Z,Y,Z,Z,Z,Z,Z,Z,Z,Z,Z,Z,Z,Z]
abbrev m22_ : Array Bool := #[Y,Y,Y,Y,Y,Y,Y,Y,Y,Y,Y,Y,Y,Y,Y,Y,Y,Y,Y,Y,Z,Y,Z,Y,Z,Z,Z,Z,Z,Z,Z,Z,Z,Z]
abbrev m23_ : Array Bool := #[Y,Y,Y,Y,Y,Y,Y,Y,Y,Y,Y,Y,Y,Y,Y,Y,Y,Y,Y,Y,Z,Y,Z,Y,Y,Z,Z,Z,Z,Z,Z,Z,Z,Z]
abbrev m24_ : Array Bool := #[Y,Y,Y,Y,Y,Y,Y,Y,Y,Y,Y,Y,Y,Y,Y,Y,Y,Y,Y,Y,Z,Y,Z,Y,Y,Y,Z,Z,Z,Z,Z,Z,Z,Z]
abbrev m25_ : Array Bool := #[Y,Y,Y,Y,Y,Y,Y,Y,Y,Y,Y,Y,Y,Y,Y,Y,Y,Y,Y,Y,Z,Y,Z,Y,Y,Y,Z,Y,Z,Z,Z,Z,Z,Z]
abbrev m26_ : Array Bool := #[Y,Y,Y,Y,Y,Y,Y,Y,Y,Y,Y,Y,Y,Y,Y,Y,Y,Y,Y,Y,Z,Y,Z,Y,Y,Y,Z,Y,Y,Z,Z,Z,Z,Z]
abbrev m27_ : Array Bool := #[Y,Y,Y,Y,Y,Y,Y,Y,Y,Y,Y,Y,Y,Y,Y,Y,Y,Y,Y,Y,Z,Y,Z,Y,Y,Y,Z,Y,Y,Y,Z,Z,Z,Z]
abbrev m28_ : Array Bool := #[Y,Y,Y,Y,Y,Y,Y,Y,Y,Y,Y,Y,Y,Y,Y,Y,Y,Y,Y,Y,Y,Y,Z,Y,Y,Y,Z,Y,Y,Y,Z,Z,Z,Z]
abbrev m29_ : Array Bool := #[Y,Y,Y,Y,Y,Y,Y,Y,Y,Y,Y,Y,Y,Y,Y,Y,Y,Y,Y,Y,Y,Y,Z,Y,Y,Y,Y,Y,Y,Y,Z,Z,Z,Z]
abbrev m30_ : Array Bool := #[Y,Y,Y,Y,Y,Y,Y,Y,Y,Y,Y,Y,Y,Y,Y,Y,Y,Y,Y,Y,Y,Y,Z,Y,Y,Y,Y,Y,Y,Y,Y,Z,Z,Z]
abbrev m31_ : Array Bool := #[Y,Y,Y,Y,Y,Y,Y,Y,Y,Y,Y,Y,Y,Y,Y,Y,Y,Y,Y,Y,Y,Y,Y,Y,Y,Y,Y,Y,Y,Y,Y,Z,Z,Z]
abbrev m32_ : Array Bool := #[Y,Y,Y,Y,Y,Y,Y,Y,Y,Y,Y,Y,Y,Y,Y,Y,Y,Y,Y,Y,Y,Y,Y,Y,Y,Y,Y,Y,Y,Y,Y,Y,Z,Z]
abbrev m33_ : Array Bool := #[Y,Y,Y,Y,Y,Y,Y,Y,Y,Y,Y,Y,Y,Y,Y,Y,Y,Y,Y,Y,Y,Y,Y,Y,Y,Y,Y,Y,Y,Y,Y,Y,Y,Z]
abbrev m34_ : Array Bool := #[Y,Y,Y,Y,Y,Y,Y,Y,Y,Y,Y,Y,Y,Y,Y,Y,Y,Y,Y,Y,Y,Y,Y,Y,Y,Y,Y,Y,Y,Y,Y,Y,Y,Y]
abbrev m35_ : Array Bool := #[Y,Y,Y,Y,Y,Y,Y,Y,Y,Y,Y,Y,Y,Y,Y,Y,Y,Y,Y,Y,Y,Z,Z,Z,Z,Z,Z,Z,Z,Z,Z,Z,Z,Z]
abbrev m36_ : Array Bool := #[Y,Y,Y,Y,Y,Y,Y,Y,Y,Y,Y,Y,Y,Y,Y,Y,Y,Y,Y,Y,Y,Y,Z,Z,Z,Z,Z,Z,Z,Z,Z,Z,Z,Z]
abbrev m37_ : Array Bool := #[Y,Y,Y,Y,Y,Y,Y,Y,Y,Y,Y,Y,Y,Y,Y,Y,Y,Y,Y,Y,Y,Y,Y,Z,Z,Z,Z,Z,Z,Z,Z,Z,Z,Z]
abbrev m38_ : Array Bool := #[Y,Y,Y,Y,Y,Y,Y,Y,Y,Y,Y,Y,Y,Y,Y,Y,Y,Y,Y,Y,Y,Y,Y,Y,Z,Z,Z,Z,Z,Z,Z,Z,Z,Z]
abbrev m39_ : Array Bool := #[Y,Y,Y,Y,Y,Y,Y,Y,Y,Y,Y,Y,Y,Y,Y,Y,Y,Y,Y,Y,Y,Y,Y,Y,Y,Z,Z,Z,Z,Z,Z,Z,Z,Z]
abbrev m40_ : Array Bool := #[Y,Y,Y,Y,Y,Y,Y,Y,Y,Y,Y,Y,Y,Y,Y,Y,Y,Y,Y,Y,Y,Y,Y,Y,Y,Y,Z,Z,Z,Z,Z,Z,Z,Z]
abbrev m41_ : Array Bool := #[Y,Y,Y,Y,Y,Y,Y,Y,Y,Y,Y,Y,Y,Y,Y,Y,Y,Y,Y,Y,Y,Y,Y,Y,Y,Y,Y,Z,Z,Z,Z,Z,Z,Z]
abbrev m42_ : Array Bool := #[Y,Y,Y,Y,Y,Y,Y,Y,Y,Y,Y,Y,Y,Y,Y,Y,Y,Y,Y,Y,Y,Y,Y,Y,Y,Y,Y,Y,Z,Z,Z,Z,Z,Z]
abbrev m43_ : Array Bool := #[Y,Y,Y,Y,Y,Y,Y,Y,Y,Y,Y,Y,Y,Y,Y,Y,Y,Y,Y,Y,Y,Y,Y,Y,Y,Y,Y,Y,Y,Z,Z,Z,Z,Z]
abbrev m44_ : Array Bool := #[Y,Y,Y,Y,Y,Y,Y,Y,Y,Y,Y,Y,Y,Y,Y,Y,Y,Y,Y,Y,Y,Y,Y,Y,Y,Y,Y,Y,Y,Y,Z,Z,Z,Z]
end ShortPFnStable3
open ShortPFnStable3

/-! ### spec_maBlocking: function 63 -/
mutual
def spec_maBlocking.l0 : Nat → List (List Int) → List (List Int) → List Int → List Int → List (List Int) → Int → Int → Option ((List (List Int)))
 | 0, _, _, _, _, _, _, _ => none
 | k + 1, x0, x1, x2, x7, x8, x14, x15 => if x15 < x14 then (spec_maBlocking.l1 k x0 x1 x2 x7 x8 x15 x14 x15 (x1.length : Int) 0) else (some x8)
def spec_maBlocking.l1 : Nat → List (List Int) → List (List Int) → List Int → List Int → List (List Int) → Int → Int → Int → Int → Int → Option ((List (List Int)))
 | 0, _, _, _, _, _, _, _, _, _, _ => none
 | k + 1, x0, x1, x2, x7, x8, x9, x14, x15, x19, x20 => if x20 < x19 then (if 0 ≤ x9 then (if x9 < (x0.length : Int) then ((spec_maRank.f k (rd_L2 x0 x9) x20).bind fun t184 => (if x9 < (x2.length : Int) then ((spec_maRank.f k (rd_L2 x0 x9) (rd x2 x9)).bind fun t187 => (if t184 < t187 then (if 0 ≤ x20 then (if x20 < (x1.length : Int) then ((spec_maRank.f k (rd_L2 x1 x20) x9).bind fun t189 => (if x20 < (x7.length : Int) then ((spec_maRank.f k (rd_L2 x1 x20) (rd x7 x20)).bind fun t192 => (if t189 < t192 then (if x8.length < 5864062014805 then (spec_maBlocking.l1 k x0 x1 x2 x7 (x8 ++ [(([x9, x20] : List Int))]) x9 x14 x15 x19 (wrap64 (x20 + 1))) else (none)) else (spec_maBlocking.l1 k x0 x1 x2 x7 x8 x9 x14 x15 x19 (wrap64 (x20 + 1))))) else (none))) else (none)) else (none)) else (spec_maBlocking.l1 k x0 x1 x2 x7 x8 x9 x14 x15 x19 (wrap64 (x20 + 1))))) else (none))) else (none)) else (none)) else (spec_maBlocking.l0 k x0 x1 x2 x7 x8 x14 (wrap64 (x15 + 1)))
end
def spec_maBlocking.f (k : Nat) (l0 : List (List Int)) (l1 : List (List Int)) (l2 : List Int) : Option ((List (List Int))) := (spec_maSwap.f k l2).bind fun t180 => (spec_maBlocking.l0 k l0 l1 l2 t180 ([] : List (List Int)) (l0.length : Int) 0)
def spec_maBlocking.T9 : Bool × List (List Nat × List Nat) := (true, [([], []), ([], []), ([0, 1], [0, 1]), ([2], [2]), ([], []), ([3, 4], [3, 4]), ([], []), ([], []), ([6, 7], [6, 7]), ([8], [8]), ([], []), ([], []), ([10, 11], [10, 11]), ([12], [12]), ([9, 13, 5], [9, 13]), ([5, 14], [5, 14]), ([15, 14], [15]), ([16], [16]), ([16], [16]), ([17, 18, 16], [16, 17, 18]), ([19, 16], [16, 19]), ([16], [16]), ([20, 21, 16, 16], [16, 20, 21]), ([16], [16]), ([16], [16]), ([23, 24, 16], [16, 23, 24]), ([25, 16], [16, 25]), ([16], [16]), ([16], [16]), ([27, 28, 16], [16, 27, 28]), ([29, 16], [16, 29]), ([26, 30, 22, 16], [16, 26, 30]), ([22, 31, 16], [16, 22, 31]), ([16, 32], [16, 32])])
def spec_maBlocking.B9 : List Nat := [0, 0, 3, 7, 0, 31, 0, 0, 192, 448, 0, 0, 3072, 7168, 16383, 32767, 65535, 131071, 131071, 524287, 1048575, 131071, 4194303, 131071, 131071, 25296895, 58851327, 131071, 131071, 402784255, 939655167, 2147483647, 4294967295, 8589934591]
theorem spec_maBlocking.tab9 : rtab .any (opsOf Try.f63 9) = spec_maBlocking.T9 := by kernel_rfl
theorem spec_maBlocking.bits9 : waitsOk spec_maBlocking.T9.2 spec_maBlocking.B9 = true := by kernel_rfl
set_option maxHeartbeats 8000000 in
set_option maxRecDepth 100000 in
theorem spec_maBlocking.calls (k : Nat) (A0 : Option Addr) (c0 : Nat) (l0 : List (List Int)) (A1 : Option Addr) (c1 : Nat) (l1 : List (List Int)) (A2 : Option Addr) (c2 : Nat) (l2 : List Int) (r : List (List Int)) (w : World) (hr0 : Kd.C (Kd.slice 3 (Kd.int .i64)) w A0 l0.length l0) (hc0 : l0.length ≤ c0) (hr1 : Kd.C (Kd.slice 3 (Kd.int .i64)) w A1 l1.length l1) (hc1 : l1.length ≤ c1) (hr2 : Kd.C (Kd.int .i64) w A2 l2.length l2) (hc2 : l2.length ≤ c2) (h : spec_maBlocking.f k l0 l1 l2 = some r) :
  Calls Try.prog 63 #[.slice A0 l0.length c0, .slice A1 l1.length c1, .slice A2 l2.length c2] w fun e w' => ∃ v0_ : Value, e = .returned (v0_) ∧ Kd.S (Kd.slice 3 (Kd.int .i64)) 27 w' w.heap.size (fun _ => True) v0_ r ∧ Below w.heap.size w w' := by
 have HR0 := Aside0.mk hr0
 have HC0 := Aside0.mk hc0
 clear hr0 hc0
 have HR1 := Aside0.mk hr1
 have HC1 := Aside0.mk hc1
 clear hr1 hc1
 have HR2 := Aside0.mk hr2
 have HC2 := Aside0.mk hc2
 clear hr2 hc2
 have HB := am (Below.refl w.heap.size w)
 have H : ((spec_maSwap.f k l2).bind fun t180 => (spec_maBlocking.l0 k l0 l1 l2 t180 ([] : List (List Int)) (l0.length : Int) 0)) = some r := h
 clear h
 replace H := Option.bind_eq_some_iff.mp H
 obtain ⟨t180, A40, H⟩ := H
 replace H : (spec_maBlocking.l0 k l0 l1 l2 t180 ([] : List (List Int)) (l0.length : Int) 0) = some r := H
 have A4 := Aside0.mk A40
 clear A40
 have H' := Aside0.mk H
 clear H
 go_enter Try.func63, Try.ntmps63
 go_wp2_with (first | ((with_reducible refine gate_callee (f := 54) rfl ?_); refine goesL_ (some 12) rfl rfl Try.func54 (by kernel_rfl) rfl #[.slice A2 l2.length c2] rfl zb' ?_; (with_reducible refine (spec_maSwap.calls k _ _ l2 t180 _ ?side1 ?side2 A4.out).mono ?_); (case side1 => repeat (first | exact HR2.out | (with_reducible refine Kd.C_alloc ?_ _) | (with_reducible refine Kd.C_drewN ?_ _) | (with_reducible refine Kd.C_drew ?_))); (case side2 => exact HC2.out); rintro e w5 ⟨v181, rfl, ho0, hb⟩; refine ⟨_, rfl, ?_⟩; have n0_ := am (Kd.R_lower ho0 (below_size za')); have n1_ := am (below_step za' hb); clear HB; have HO182 := n0_; have HB := n1_; clear n0_ n1_; (try clear hb); (try clear hb2); (try clear hk); (try clear hi); (try clear ho0)))
 obtain ⟨AoZ, coZ, eoZ⟩ := Kd.R_slice HO182.out
 subst eoZ
 go_loopg [8, 15] k (fun kq v8 v15 w' => ∃ (x8_1 : List (List Int)) (x15_1 : Int), v15 = .int .i64 x15_1 ∧ Aside0 (spec_maBlocking.l0 kq l0 l1 l2 t180 x8_1 (l0.length : Int) x15_1 = some r) ∧ Aside0 (kq ≤ k) ∧ Aside0 (Kd.R (Kd.int .i64) 3 w' w.heap.size (fun _ => True) (.slice AoZ t180.length coZ : Value) t180) ∧ Aside0 (Kd.S (Kd.slice 3 (Kd.int .i64)) 27 w' w.heap.size (fun k_ => some k_ ≠ ((.slice AoZ t180.length coZ : Value) : Value).ownBlock) v8 x8_1) ∧ Aside0 (Below w.heap.size w w'))
 case atStart => exact ⟨(([] : List (List Int))), (0), zj', H', ⟨Nat.le_refl _⟩, ⟨by (with_reducible repeat (first | apply Kd.R_alloc | apply Kd.R_drewN | apply Kd.R_drew)); exact HO182.out⟩, ⟨zc3'⟩, ⟨za'⟩⟩
 case round =>
  clear H'
  try clear c1
  try clear c2
  try clear p2
  try clear c5
  obtain ⟨x8_1, x15_1, rfl, HA, HK1, HO_7, HO_8, HB⟩ := hrel
  cases gk with
  | zero => exact absurd HA.out (by simp [spec_maBlocking.l0])
  | succ k1 =>
   have H := HA.out; clear HA; simp only [spec_maBlocking.l0] at H
   by_cases c6 : x15_1 < (l0.length : Int)
   ·rw [if_pos c6] at H
    have c6b0 : decide (x15_1 < (l0.length : Int)) = true := decide_eq_true c6; clear c6; have H' := Aside0.mk H; clear H
    go_wp2
    go_loopg [8, 20] k1 (fun kq v8 v20 w' => ∃ (x8_2 : List (List Int)) (x20_2 : Int), v20 = .int .i64 x20_2 ∧ Aside0 (spec_maBlocking.l1 kq l0 l1 l2 t180 x8_2 x15_1 (l0.length : Int) x15_1 (l1.length : Int) x20_2 = some r) ∧ Aside0 (kq ≤ k1) ∧ Aside0 (Kd.R (Kd.int .i64) 3 w' w.heap.size (fun _ => True) (.slice AoZ t180.length coZ : Value) t180) ∧ Aside0 (Kd.S (Kd.slice 3 (Kd.int .i64)) 27 w' w.heap.size (fun k_ => some k_ ≠ ((.slice AoZ t180.length coZ : Value) : Value).ownBlock) v8 x8_2) ∧ Aside0 (Below w.heap.size w w'))
    case atStart => exact ⟨(x8_1), (0), zj', H', ⟨Nat.le_refl _⟩, ⟨ze'⟩, ⟨za2'⟩, ⟨za'⟩⟩
    case round =>
     clear H'; (try clear c1); (try clear c2); (try clear p2); (try clear c5); (try clear c6); (try clear c6b0); (try clear p2); obtain ⟨x8_2, x20_2, rfl, HA, HK2, HO_7, HO_8, HB⟩ := hrel
     cases gk with
     | zero => exact absurd HA.out (by simp [spec_maBlocking.l1])
     | succ k2 =>
      have H := HA.out; clear HA; simp only [spec_maBlocking.l1] at H
      by_cases c7 : x20_2 < (l1.length : Int)
      ·rw [if_pos c7] at H
       have c7b0 : decide (x20_2 < (l1.length : Int)) = true := decide_eq_true c7; clear c7
       by_cases c8 : 0 ≤ x15_1
       ·rw [if_pos c8] at H
        have c8b0 : decide (0 ≤ x15_1) = true := decide_eq_true c8; clear c8
        by_cases c9 : x15_1 < (l0.length : Int)
        ·rw [if_pos c9] at H
         have c9b0 : decide (x15_1 < (l0.length : Int)) = true := decide_eq_true c9; clear c9; replace H := Option.bind_eq_some_iff.mp H; obtain ⟨t184, A100, H⟩ := H; replace H : (if x15_1 < (l2.length : Int) then ((spec_maRank.f k2 (rd_L2 l0 x15_1) (rd l2 x15_1)).bind fun t187 => (if t184 < t187 then (if 0 ≤ x20_2 then (if x20_2 < (l1.length : Int) then ((spec_maRank.f k2 (rd_L2 l1 x20_2) x15_1).bind fun t189 => (if x20_2 < (t180.length : Int) then ((spec_maRank.f k2 (rd_L2 l1 x20_2) (rd t180 x20_2)).bind fun t192 => (if t189 < t192 then (if x8_2.length < 5864062014805 then (spec_maBlocking.l1 k2 l0 l1 l2 t180 (x8_2 ++ [(([x15_1, x20_2] : List Int))]) x15_1 (l0.length : Int) x15_1 (l1.length : Int) (wrap64 (x20_2 + 1))) else (none)) else (spec_maBlocking.l1 k2 l0 l1 l2 t180 x8_2 x15_1 (l0.length : Int) x15_1 (l1.length : Int) (wrap64 (x20_2 + 1))))) else (none))) else (none)) else (none)) else (spec_maBlocking.l1 k2 l0 l1 l2 t180 x8_2 x15_1 (l0.length : Int) x15_1 (l1.length : Int) (wrap64 (x20_2 + 1))))) else (none)) = some r := H; have A10 := Aside0.mk A100; clear A100
         by_cases c11 : x15_1 < (l2.length : Int)
         ·rw [if_pos c11] at H
          have c11b0 : decide (x15_1 < (l2.length : Int)) = true := decide_eq_true c11; clear c11; replace H := Option.bind_eq_some_iff.mp H; obtain ⟨t187, A120, H⟩ := H; replace H : (if t184 < t187 then (if 0 ≤ x20_2 then (if x20_2 < (l1.length : Int) then ((spec_maRank.f k2 (rd_L2 l1 x20_2) x15_1).bind fun t189 => (if x20_2 < (t180.length : Int) then ((spec_maRank.f k2 (rd_L2 l1 x20_2) (rd t180 x20_2)).bind fun t192 => (if t189 < t192 then (if x8_2.length < 5864062014805 then (spec_maBlocking.l1 k2 l0 l1 l2 t180 (x8_2 ++ [(([x15_1, x20_2] : List Int))]) x15_1 (l0.length : Int) x15_1 (l1.length : Int) (wrap64 (x20_2 + 1))) else (none)) else (spec_maBlocking.l1 k2 l0 l1 l2 t180 x8_2 x15_1 (l0.length : Int) x15_1 (l1.length : Int) (wrap64 (x20_2 + 1))))) else (none))) else (none)) else (none)) else (spec_maBlocking.l1 k2 l0 l1 l2 t180 x8_2 x15_1 (l0.length : Int) x15_1 (l1.length : Int) (wrap64 (x20_2 + 1)))) = some r := H; have A12 := Aside0.mk A120; clear A120
          by_cases c13 : t184 < t187
          ·rw [if_pos c13] at H
           have c13b0 : decide (t184 < t187) = true := decide_eq_true c13; clear c13
           by_cases c14 : 0 ≤ x20_2
           ·rw [if_pos c14] at H
            have c14b0 : decide (0 ≤ x20_2) = true := decide_eq_true c14; clear c14
            by_cases c15 : x20_2 < (l1.length : Int)
            ·rw [if_pos c15] at H
             have c15b0 : decide (x20_2 < (l1.length : Int)) = true := decide_eq_true c15; clear c15; replace H := Option.bind_eq_some_iff.mp H; obtain ⟨t189, A160, H⟩ := H; replace H : (if x20_2 < (t180.length : Int) then ((spec_maRank.f k2 (rd_L2 l1 x20_2) (rd t180 x20_2)).bind fun t192 => (if t189 < t192 then (if x8_2.length < 5864062014805 then (spec_maBlocking.l1 k2 l0 l1 l2 t180 (x8_2 ++ [(([x15_1, x20_2] : List Int))]) x15_1 (l0.length : Int) x15_1 (l1.length : Int) (wrap64 (x20_2 + 1))) else (none)) else (spec_maBlocking.l1 k2 l0 l1 l2 t180 x8_2 x15_1 (l0.length : Int) x15_1 (l1.length : Int) (wrap64 (x20_2 + 1))))) else (none)) = some r := H; have A16 := Aside0.mk A160; clear A160
             by_cases c17 : x20_2 < (t180.length : Int)
             ·rw [if_pos c17] at H
              have c17b0 : decide (x20_2 < (t180.length : Int)) = true := decide_eq_true c17; clear c17; replace H := Option.bind_eq_some_iff.mp H; obtain ⟨t192, A180, H⟩ := H; replace H : (if t189 < t192 then (if x8_2.length < 5864062014805 then (spec_maBlocking.l1 k2 l0 l1 l2 t180 (x8_2 ++ [(([x15_1, x20_2] : List Int))]) x15_1 (l0.length : Int) x15_1 (l1.length : Int) (wrap64 (x20_2 + 1))) else (none)) else (spec_maBlocking.l1 k2 l0 l1 l2 t180 x8_2 x15_1 (l0.length : Int) x15_1 (l1.length : Int) (wrap64 (x20_2 + 1)))) = some r := H; have A18 := Aside0.mk A180; clear A180
              by_cases c19 : t189 < t192
              ·rw [if_pos c19] at H
               have c19b0 : decide (t189 < t192) = true := decide_eq_true c19; clear c19
               obtain ⟨y193, hy193⟩ : ∃ y_ : List Int, y_ = (([x15_1, x20_2] : List Int)) := ⟨_, rfl⟩
               replace H : (if x8_2.length < 5864062014805 then (spec_maBlocking.l1 k2 l0 l1 l2 t180 (x8_2 ++ [y193]) x15_1 (l0.length : Int) x15_1 (l1.length : Int) (wrap64 (x20_2 + 1))) else (none)) = some r := by first | (rw [hy193]; with_reducible exact H) | (have H2_ := (Option.bind_some _ _).symm.trans H; rw [hy193]; with_reducible exact H2_) | (have H2_ := (Option.bind_some _ _).symm.trans H; with_reducible exact H2_) | with_reducible exact H | (rw [hy193]; exact H) | exact H
               have Ny193 := Aside0.mk hy193; clear hy193
               by_cases c20 : x8_2.length < 5864062014805
               ·rw [if_pos c20] at H
                have LMc20 := Aside0.mk c20; clear c20
                obtain ⟨y196, hy196⟩ : ∃ y_ : List (List Int), y_ = (x8_2 ++ [y193]) := ⟨_, rfl⟩
                replace H : (spec_maBlocking.l1 k2 l0 l1 l2 t180 y196 x15_1 (l0.length : Int) x15_1 (l1.length : Int) (wrap64 (x20_2 + 1))) = some r := by first | (rw [hy196]; with_reducible exact H) | (have H2_ := (Option.bind_some _ _).symm.trans H; rw [hy196]; with_reducible exact H2_) | (have H2_ := (Option.bind_some _ _).symm.trans H; with_reducible exact H2_) | with_reducible exact H | (rw [hy196]; exact H) | exact H
                have Ny196 := Aside0.mk hy196; clear hy196; have H' := Aside0.mk H; clear H
                try go_wp2
                have n0_ := am (Kd.R_drew HO_7.out); have n1_ := am (Kd.S_drew HO_8.out); have n2_ := am (below_drew1 HB.out); clear HO_7; clear HO_8; clear HB; have HO_7 := n0_; have HO_8 := n1_; have HB := n2_; clear n0_ n1_ n2_; have p183 : 0 ≤ (x15_1 : Int) := odt; have q183 : x15_1 < (l0.length : Int) := odt; obtain ⟨ad183, A183_0, c183_0, e183, hx183_0, hl183_0, hi183_0⟩ := at_L2 HR0.out x15_1 p183 q183; have hw183_0 := hx183_0; cases e183
                try replace hx183_0 := (HB.out.cell (World.block_lt_of_cell? w _ hx183_0)).trans hx183_0
                have HR183_0 := Aside0.mk hi183_0; have HC183_0 := Aside0.mk hl183_0; clear hi183_0 hl183_0; replace p183 := eq_true p183; replace q183 := eq_true q183; have p185 : 0 ≤ (x15_1 : Int) := odt; have q185 : x15_1 < (l0.length : Int) := odt; obtain ⟨ad185, A185_0, c185_0, e185, hx185_0, hl185_0, hi185_0⟩ := at_L2 HR0.out x15_1 p185 q185; have hw185_0 := hx185_0; obtain rfl : ad183 = ad185 := (by injection e185)
                try replace hx185_0 := (HB.out.cell (World.block_lt_of_cell? w _ hx185_0)).trans hx185_0
                have HR185_0 := Aside0.mk hi185_0; have HC185_0 := Aside0.mk hl185_0; clear hi185_0 hl185_0; replace p185 := eq_true p185; replace q185 := eq_true q185; have ea_ := Option.some.inj (hx183_0.symm.trans hx185_0)
                injection ea_ with ea_ en_ ec_
                subst ea_; subst ec_; clear en_; have p186 : 0 ≤ (x15_1 : Int) := odt; have q186 : x15_1 < (l2.length : Int) := odt; obtain ⟨ad186, e186, hx186_0⟩ := Kd.at_int HR2.out x15_1 p186 q186; have hw186_0 := hx186_0; cases e186
                try replace hx186_0 := (HB.out.cell (World.block_lt_of_cell? w _ hx186_0)).trans hx186_0
                replace p186 := eq_true p186; replace q186 := eq_true q186; have p188 : 0 ≤ (x20_2 : Int) := odt; have q188 : x20_2 < (l1.length : Int) := odt; obtain ⟨ad188, A188_0, c188_0, e188, hx188_0, hl188_0, hi188_0⟩ := at_L2 HR1.out x20_2 p188 q188; have hw188_0 := hx188_0; cases e188
                try replace hx188_0 := (HB.out.cell (World.block_lt_of_cell? w _ hx188_0)).trans hx188_0
                have HR188_0 := Aside0.mk hi188_0; have HC188_0 := Aside0.mk hl188_0; clear hi188_0 hl188_0; replace p188 := eq_true p188; replace q188 := eq_true q188; have p190 : 0 ≤ (x20_2 : Int) := odt; have q190 : x20_2 < (l1.length : Int) := odt; obtain ⟨ad190, A190_0, c190_0, e190, hx190_0, hl190_0, hi190_0⟩ := at_L2 HR1.out x20_2 p190 q190; have hw190_0 := hx190_0; obtain rfl : ad188 = ad190 := (by injection e190)
                try replace hx190_0 := (HB.out.cell (World.block_lt_of_cell? w _ hx190_0)).trans hx190_0
                have HR190_0 := Aside0.mk hi190_0; have HC190_0 := Aside0.mk hl190_0; clear hi190_0 hl190_0; replace p190 := eq_true p190; replace q190 := eq_true q190; have ea_ := Option.some.inj (hx188_0.symm.trans hx190_0)
                injection ea_ with ea_ en_ ec_
                subst ea_; subst ec_; clear en_; have p191 : 0 ≤ (x20_2 : Int) := odt; have q191 : x20_2 < (t180.length : Int) := odt; obtain ⟨ad191, e191, hx191_0⟩ := Kd.at_int (Kd.R_reads' HO_7.out).2.2 x20_2 p191 q191; cases e191; replace p191 := eq_true p191; replace q191 := eq_true q191
                refine start_ (n := 34) (S := fun w' => w'.cell? (ad183.add (x15_1).toNat) = some (.slice A183_0 (rd_L2 l0 x15_1).length c183_0) ∧ w'.cell? (ad183.add (x15_1).toNat) = some (.slice A183_0 (rd_L2 l0 x15_1).length c183_0) ∧ w'.cell? (ad186.add (x15_1).toNat) = some (.int .i64 (rd l2 x15_1)) ∧ w'.cell? (ad188.add (x20_2).toNat) = some (.slice A188_0 (rd_L2 l1 x20_2).length c188_0) ∧ w'.cell? (ad188.add (x20_2).toNat) = some (.slice A188_0 (rd_L2 l1 x20_2).length c188_0) ∧ w'.cell? (ad191.add (x20_2).toNat) = some (.int .i64 (rd t180 x20_2))) (ds := []) m0_ (by kernel_rfl) rfl rfl ⟨((HB.out.cell (World.block_lt_of_cell? w _ hw183_0)).trans hw183_0), ((HB.out.cell (World.block_lt_of_cell? w _ hw185_0)).trans hw185_0), ((HB.out.cell (World.block_lt_of_cell? w _ hw186_0)).trans hw186_0), ((HB.out.cell (World.block_lt_of_cell? w _ hw188_0)).trans hw188_0), ((HB.out.cell (World.block_lt_of_cell? w _ hw190_0)).trans hw190_0), hx191_0⟩ (fun hHeld => ?_); refine with_tabW spec_maBlocking.tab9 spec_maBlocking.bits9 (fun HT_ HW_ => ?_)
                generalize wr.drew = w21 at HO_7 HO_8 HB HR183_0 HR185_0 HR188_0 HR190_0 hx183_0 hx185_0 hx186_0 hx188_0 hx190_0 hx191_0 hHeld ⊢
                refine pure_ (i := 0) (N := some 23) (v := ?_) (a' := ?_) m1_ rfl rfl (any_of HT_.out (by kernel_rfl)) (fun _ _ _ h => h) (Or.inl ⟨by rfl, ?_⟩) ?_ ?_
                rotate_left
                ·intro w'
                 go_simp
                 with_reducible rfl
                rotate_left
                ·simp only [Act.put, s1, s2, s3, i64_w, i32_w]
                 rfl
                refine pure_ (i := 1) (N := some 24) (v := ?_) (a' := ?_) m2_ rfl rfl (any_of HT_.out (by kernel_rfl)) (fun _ _ _ h => h) (Or.inl ⟨by rfl, ?_⟩) ?_ ?_
                rotate_left
                ·intro w'
                 go_simp
                 with_reducible rfl
                rotate_left
                ·simp only [Act.put, s1, s2, s3, i64_w, i32_w]
                 rfl
                refine pure_ (i := 2) (N := some 25) (v := ?_) (a' := ?_) m3_ rfl rfl (any_of HT_.out (by kernel_rfl)) (fun _ _ _ h => h) (Or.inl ⟨by rfl, ?_⟩) ?_ ?_
                rotate_left
                ·intro w'
                 go_simp
                 with_reducible rfl
                rotate_left
                ·simp only [Act.put, s1, s2, s3, i64_w, i32_w]
                 rfl
                refine pure_ (i := 4) (N := some 27) (v := ?_) (a' := ?_) m4_ rfl rfl (any_of HT_.out (by kernel_rfl)) (fun _ _ _ h => h) (Or.inl ⟨by rfl, ?_⟩) ?_ ?_
                rotate_left
                ·intro w'
                 go_simp
                 with_reducible rfl
                rotate_left
                ·simp only [Act.put, s1, s2, s3, i64_w, i32_w]
                 rfl
                refine pure_ (i := 6) (N := some 29) (v := ?_) (a' := ?_) m5_ rfl rfl (any_of HT_.out (by kernel_rfl)) (fun _ _ _ h => h) (Or.inl ⟨by rfl, ?_⟩) ?_ ?_
                rotate_left
                ·intro w'
                 go_simp
                 with_reducible rfl
                rotate_left
                ·simp only [Act.put, s1, s2, s3, i64_w, i32_w]
                 rfl
                refine pure_ (i := 7) (N := some 30) (v := ?_) (a' := ?_) m6_ rfl rfl (any_of HT_.out (by kernel_rfl)) (fun _ _ _ h => h) (Or.inl ⟨by rfl, ?_⟩) ?_ ?_
                rotate_left
                ·intro w'
                 go_simp
                 with_reducible rfl
                rotate_left
                ·simp only [Act.put, s1, s2, s3, i64_w, i32_w]
                 rfl
                refine pure_ (i := 8) (N := some 31) (v := ?_) (a' := ?_) m7_ rfl rfl (any_of HT_.out (by kernel_rfl)) (fun _ _ _ h => h) (Or.inl ⟨by rfl, ?_⟩) ?_ ?_
                rotate_left
                ·intro w'
                 go_simp
                 with_reducible rfl
                rotate_left
                ·simp only [Act.put, s1, s2, s3, i64_w, i32_w]
                 rfl
                refine pure_ (i := 10) (N := some 33) (v := ?_) (a' := ?_) m8_ rfl rfl (any_of HT_.out (by kernel_rfl)) (fun _ _ _ h => h) (Or.inl ⟨by rfl, ?_⟩) ?_ ?_
                rotate_left
                ·intro w'
                 go_simp
                 with_reducible rfl
                rotate_left
                ·simp only [Act.put, s1, s2, s3, i64_w, i32_w]
                 rfl
                refine pure_ (i := 11) (N := some 34) (v := ?_) (a' := ?_) m9_ rfl rfl (any_of HT_.out (by kernel_rfl)) (fun _ _ _ h => h) (Or.inl ⟨by rfl, ?_⟩) ?_ ?_
                rotate_left
                ·intro w'
                 go_simp
                 with_reducible rfl
                rotate_left
                ·simp only [Act.put, s1, s2, s3, i64_w, i32_w]
                 rfl
                refine pure_ (i := 12) (N := some 35) (v := ?_) (a' := ?_) m10_ rfl rfl (any_of HT_.out (by kernel_rfl)) (fun _ _ _ h => h) (Or.inl ⟨by rfl, ?_⟩) ?_ ?_
                rotate_left
                ·intro w'
                 go_simp
                 with_reducible rfl
                rotate_left
                ·simp only [Act.put, s1, s2, s3, i64_w, i32_w]
                 rfl
                refine take_ (i := 3) (N := some 26) (v := ?_) (a' := ?_) m11_ rfl rfl (take_ofW HT_.out HW_.out (by kernel_rfl)) (fun _ _ _ h => h) (Or.inl ⟨by rfl, ?_⟩) hHeld ?_ ?_
                rotate_left
                ·rintro w' ⟨s0, s1, s2, s3, s4, s5⟩
                 go_simp
                 with_reducible rfl
                rotate_left
                ·simp only [Act.put, s1, s2, s3, i64_w, i32_w]
                 rfl
                refine take_ (i := 9) (N := some 32) (v := ?_) (a' := ?_) m12_ rfl rfl (take_ofW HT_.out HW_.out (by kernel_rfl)) (fun _ _ _ h => h) (Or.inl ⟨by rfl, ?_⟩) hHeld ?_ ?_
                rotate_left
                ·rintro w' ⟨s0, s1, s2, s3, s4, s5⟩
                 go_simp
                 with_reducible rfl
                rotate_left
                ·simp only [Act.put, s1, s2, s3, i64_w, i32_w]
                 rfl
                refine take_ (i := 13) (N := some 36) (v := ?_) (a' := ?_) m13_ rfl rfl (take_ofW HT_.out HW_.out (by kernel_rfl)) (fun _ _ _ h => h) (Or.inl ⟨by rfl, ?_⟩) hHeld ?_ ?_
                rotate_left
                ·rintro w' ⟨s0, s1, s2, s3, s4, s5⟩
                 go_simp
                 with_reducible rfl
                rotate_left
                ·simp only [Act.put, s1, s2, s3, i64_w, i32_w]
                 rfl
                refine one_ (i := 5) (N := some 28) m14_ rfl rfl (one_of HT_.out (by kernel_rfl)) (by decide) (fun K hK => ?_)
                refine goes_ Try.func86 (by kernel_rfl) rfl #[.slice A183_0 (rd_L2 l0 x15_1).length c183_0, .int .i64 x20_2] (by rfl) rfl rfl zb' ?_
                with_reducible refine (spec_maRank.calls k2 _ _ (rd_L2 l0 x15_1) x20_2 t184 _ ?side1 ?side2 A10.out).mono ?_
                (case side1 => exact zj2')
                (case side2 => exact HC183_0.out)
                rintro e w' ⟨rfl, ⟨nd, rfl⟩⟩
                refine ⟨_, rfl, ?_⟩
                refine hK.out _ _ ⟨((HB.out.cell (World.block_lt_of_cell? w _ hw183_0)).trans hw183_0), ((HB.out.cell (World.block_lt_of_cell? w _ hw185_0)).trans hw185_0), ((HB.out.cell (World.block_lt_of_cell? w _ hw186_0)).trans hw186_0), ((HB.out.cell (World.block_lt_of_cell? w _ hw188_0)).trans hw188_0), ((HB.out.cell (World.block_lt_of_cell? w _ hw190_0)).trans hw190_0), hHeld.2.2.2.2.2⟩ (fun hHeld => ?_)
                clear hK K
                refine norm_ (a' := ?_) ?_ ?_
                rotate_left
                ·show Act.put _ (some 28) _ = _
                 simp only [Act.put, s1, s2, s3, i64_w, i32_w]
                 rfl
                refine one_ (i := 14) (N := some 37) m15_ rfl rfl (one_of HT_.out (by kernel_rfl)) (by decide) (fun K hK => ?_)
                refine goes_ Try.func86 (by kernel_rfl) rfl #[.slice A183_0 (rd_L2 l0 x15_1).length c183_0, .int .i64 (rd l2 x15_1)] (by rfl) rfl rfl zb' ?_
                with_reducible refine (spec_maRank.calls k2 _ _ (rd_L2 l0 x15_1) (rd l2 x15_1) t187 _ ?side1 ?side2 A12.out).mono ?_
                (case side1 => exact zm2')
                (case side2 => exact HC185_0.out)
                rintro e w' ⟨rfl, ⟨nd, rfl⟩⟩
                refine ⟨_, rfl, ?_⟩
                refine hK.out _ _ ⟨((HB.out.cell (World.block_lt_of_cell? w _ hw183_0)).trans hw183_0), ((HB.out.cell (World.block_lt_of_cell? w _ hw185_0)).trans hw185_0), ((HB.out.cell (World.block_lt_of_cell? w _ hw186_0)).trans hw186_0), ((HB.out.cell (World.block_lt_of_cell? w _ hw188_0)).trans hw188_0), ((HB.out.cell (World.block_lt_of_cell? w _ hw190_0)).trans hw190_0), hHeld.2.2.2.2.2⟩ (fun hHeld => ?_)
                clear hK K
                refine norm_ (a' := ?_) ?_ ?_
                rotate_left
                ·show Act.put _ (some 37) _ = _
                 simp only [Act.put, s1, s2, s3, i64_w, i32_w]
                 rfl
                refine pure_ (i := 15) (N := some 38) (v := ?_) (a' := ?_) m16_ rfl rfl (any_of HT_.out (by kernel_rfl)) (fun _ _ _ h => h) (Or.inl ⟨by rfl, ?_⟩) ?_ ?_
                rotate_left
                ·intro w'
                 go_simp
                 with_reducible rfl
                rotate_left
                ·simp only [Act.put, s1, s2, s3, i64_w, i32_w]
                 rfl
                refine pure_ (i := 16) (N := some 39) (v := ?_) (a' := ?_) m17_ rfl rfl (any_of HT_.out (by kernel_rfl)) (fun _ _ _ h => h) (Or.inl ⟨by rfl, ?_⟩) ?_ ?_
                rotate_left
                ·intro w'
                 go_simp
                 with_reducible rfl
                rotate_left
                ·simp only [Act.put, s1, s2, s3, i64_w, i32_w]
                 rfl
                refine pure_ (i := 17) (N := some 40) (v := ?_) (a' := ?_) m18_ rfl rfl (any_of HT_.out (by kernel_rfl)) (fun _ _ _ h => h) (Or.inl ⟨by rfl, ?_⟩) ?_ ?_
                rotate_left
                ·intro w'
                 go_simp
                 with_reducible rfl
                rotate_left
                ·simp only [Act.put, s1, s2, s3, i64_w, i32_w]
                 rfl
                refine pure_ (i := 18) (N := some 41) (v := ?_) (a' := ?_) m19_ rfl rfl (any_of HT_.out (by kernel_rfl)) (fun _ _ _ h => h) (Or.inl ⟨by rfl, ?_⟩) ?_ ?_
                rotate_left
                ·intro w'
                 go_simp
                 with_reducible rfl
                rotate_left
                ·simp only [Act.put, s1, s2, s3, i64_w, i32_w]
                 rfl
                refine pure_ (i := 19) (N := some 42) (v := ?_) (a' := ?_) m20_ rfl rfl (any_of HT_.out (by kernel_rfl)) (fun _ _ _ h => h) (Or.inl ⟨by rfl, ?_⟩) ?_ ?_
                rotate_left
                ·intro w'
                 go_simp
                 with_reducible rfl
                rotate_left
                ·simp only [Act.put, s1, s2, s3, i64_w, i32_w]
                 rfl
                refine pure_ (i := 21) (N := some 44) (v := ?_) (a' := ?_) m21_ rfl rfl (any_of HT_.out (by kernel_rfl)) (fun _ _ _ h => h) (Or.inl ⟨by rfl, ?_⟩) ?_ ?_
                rotate_left
                ·intro w'
                 go_simp
                 with_reducible rfl
                rotate_left
                ·simp only [Act.put, s1, s2, s3, i64_w, i32_w]
                 rfl
                refine pure_ (i := 23) (N := some 46) (v := ?_) (a' := ?_) m22_ rfl rfl (any_of HT_.out (by kernel_rfl)) (fun _ _ _ h => h) (Or.inl ⟨by rfl, ?_⟩) ?_ ?_
                rotate_left
                ·intro w'
                 go_simp
                 with_reducible rfl
                rotate_left
                ·simp only [Act.put, s1, s2, s3, i64_w, i32_w]
                 rfl
                refine pure_ (i := 24) (N := some 47) (v := ?_) (a' := ?_) m23_ rfl rfl (any_of HT_.out (by kernel_rfl)) (fun _ _ _ h => h) (Or.inl ⟨by rfl, ?_⟩) ?_ ?_
                rotate_left
                ·intro w'
                 go_simp
                 with_reducible rfl
                rotate_left
                ·simp only [Act.put, s1, s2, s3, i64_w, i32_w]
                 rfl
                refine pure_ (i := 25) (N := some 48) (v := ?_) (a' := ?_) m24_ rfl rfl (any_of HT_.out (by kernel_rfl)) (fun _ _ _ h => h) (Or.inl ⟨by rfl, ?_⟩) ?_ ?_
                rotate_left
                ·intro w'
                 go_simp
                 with_reducible rfl
                rotate_left
                ·simp only [Act.put, s1, s2, s3, i64_w, i32_w]
                 rfl
                refine pure_ (i := 27) (N := some 50) (v := ?_) (a' := ?_) m25_ rfl rfl (any_of HT_.out (by kernel_rfl)) (fun _ _ _ h => h) (Or.inl ⟨by rfl, ?_⟩) ?_ ?_
                rotate_left
                ·intro w'
                 go_simp
                 with_reducible rfl
                rotate_left
                ·simp only [Act.put, s1, s2, s3, i64_w, i32_w]
                 rfl
                refine pure_ (i := 28) (N := some 51) (v := ?_) (a' := ?_) m26_ rfl rfl (any_of HT_.out (by kernel_rfl)) (fun _ _ _ h => h) (Or.inl ⟨by rfl, ?_⟩) ?_ ?_
                rotate_left
                ·intro w'
                 go_simp
                 with_reducible rfl
                rotate_left
                ·simp only [Act.put, s1, s2, s3, i64_w, i32_w]
                 rfl
                refine pure_ (i := 29) (N := some 52) (v := ?_) (a' := ?_) m27_ rfl rfl (any_of HT_.out (by kernel_rfl)) (fun _ _ _ h => h) (Or.inl ⟨by rfl, ?_⟩) ?_ ?_
                rotate_left
                ·intro w'
                 go_simp
                 with_reducible rfl
                rotate_left
                ·simp only [Act.put, s1, s2, s3, i64_w, i32_w]
                 rfl
                refine take_ (i := 20) (N := some 43) (v := ?_) (a' := ?_) m28_ rfl rfl (take_ofW HT_.out HW_.out (by kernel_rfl)) (fun _ _ _ h => h) (Or.inl ⟨by rfl, ?_⟩) hHeld ?_ ?_
                rotate_left
                ·rintro w' ⟨s0, s1, s2, s3, s4, s5⟩
                 go_simp
                 with_reducible rfl
                rotate_left
                ·simp only [Act.put, s1, s2, s3, i64_w, i32_w]
                 rfl
                refine take_ (i := 26) (N := some 49) (v := ?_) (a' := ?_) m29_ rfl rfl (take_ofW HT_.out HW_.out (by kernel_rfl)) (fun _ _ _ h => h) (Or.inl ⟨by rfl, ?_⟩) hHeld ?_ ?_
                rotate_left
                ·rintro w' ⟨s0, s1, s2, s3, s4, s5⟩
                 go_simp
                 with_reducible rfl
                rotate_left
                ·simp only [Act.put, s1, s2, s3, i64_w, i32_w]
                 rfl
                refine take_ (i := 30) (N := some 53) (v := ?_) (a' := ?_) m30_ rfl rfl (take_ofW HT_.out HW_.out (by kernel_rfl)) (fun _ _ _ h => h) (Or.inl ⟨by rfl, ?_⟩) hHeld ?_ ?_
                rotate_left
                ·rintro w' ⟨s0, s1, s2, s3, s4, s5⟩
                 go_simp
                 with_reducible rfl
                rotate_left
                ·simp only [Act.put, s1, s2, s3, i64_w, i32_w]
                 rfl
                refine one_ (i := 22) (N := some 45) m31_ rfl rfl (one_of HT_.out (by kernel_rfl)) (by decide) (fun K hK => ?_)
                refine goes_ Try.func86 (by kernel_rfl) rfl #[.slice A188_0 (rd_L2 l1 x20_2).length c188_0, .int .i64 x15_1] (by rfl) rfl rfl zb' ?_
                with_reducible refine (spec_maRank.calls k2 _ _ (rd_L2 l1 x20_2) x15_1 t189 _ ?side1 ?side2 A16.out).mono ?_
                (case side1 => exact zw3')
                (case side2 => exact HC188_0.out)
                rintro e w' ⟨rfl, ⟨nd, rfl⟩⟩
                refine ⟨_, rfl, ?_⟩
                obtain ⟨Ao22, co22, eo22⟩ := Kd.R_slice HO_7.out
                (first | subst eo22 | (injection eo22 with f1_ f2_ f3_; have f4_ := f1_.symm; have f5_ := f3_.symm; clear f1_ f2_ f3_; subst f4_; subst f5_))
                refine hK.out _ _ ⟨((HB.out.cell (World.block_lt_of_cell? w _ hw183_0)).trans hw183_0), ((HB.out.cell (World.block_lt_of_cell? w _ hw185_0)).trans hw185_0), ((HB.out.cell (World.block_lt_of_cell? w _ hw186_0)).trans hw186_0), ((HB.out.cell (World.block_lt_of_cell? w _ hw188_0)).trans hw188_0), ((HB.out.cell (World.block_lt_of_cell? w _ hw190_0)).trans hw190_0), hHeld.2.2.2.2.2⟩ (fun hHeld => ?_)
                clear hK K
                refine norm_ (a' := ?_) ?_ ?_
                rotate_left
                ·show Act.put _ (some 45) _ = _
                 simp only [Act.put, s1, s2, s3, i64_w, i32_w]
                 rfl
                refine one_ (i := 31) (N := some 54) m32_ rfl rfl (one_of HT_.out (by kernel_rfl)) (by decide) (fun K hK => ?_)
                refine goes_ Try.func86 (by kernel_rfl) rfl #[.slice A188_0 (rd_L2 l1 x20_2).length c188_0, .int .i64 (rd t180 x20_2)] (by rfl) rfl rfl zb' ?_
                with_reducible refine (spec_maRank.calls k2 _ _ (rd_L2 l1 x20_2) (rd t180 x20_2) t192 _ ?side1 ?side2 A18.out).mono ?_
                (case side1 => exact zx3')
                (case side2 => exact HC190_0.out)
                rintro e w' ⟨rfl, ⟨nd, rfl⟩⟩
                refine ⟨_, rfl, ?_⟩
                refine hK.out _ _ ⟨((HB.out.cell (World.block_lt_of_cell? w _ hw183_0)).trans hw183_0), ((HB.out.cell (World.block_lt_of_cell? w _ hw185_0)).trans hw185_0), ((HB.out.cell (World.block_lt_of_cell? w _ hw186_0)).trans hw186_0), ((HB.out.cell (World.block_lt_of_cell? w _ hw188_0)).trans hw188_0), ((HB.out.cell (World.block_lt_of_cell? w _ hw190_0)).trans hw190_0), hHeld.2.2.2.2.2⟩ (fun hHeld => ?_)
                clear hK K
                refine norm_ (a' := ?_) ?_ ?_
                rotate_left
                ·show Act.put _ (some 54) _ = _
                 simp only [Act.put, s1, s2, s3, i64_w, i32_w]
                 rfl
                refine pure_ (i := 32) (N := some 55) (v := ?_) (a' := ?_) m33_ rfl rfl (any_of HT_.out (by kernel_rfl)) (fun _ _ _ h => h) (Or.inl ⟨by rfl, ?_⟩) ?_ ?_
                rotate_left
                ·intro w'
                 go_simp
                 with_reducible rfl
                rotate_left
                ·simp only [Act.put, s1, s2, s3, i64_w, i32_w]
                 rfl
                refine pure_ (i := 33) (N := some 56) (v := ?_) (a' := ?_) m34_ rfl rfl (any_of HT_.out (by kernel_rfl)) (fun _ _ _ h => h) (Or.inl ⟨by rfl, ?_⟩) ?_ ?_
                rotate_left
                ·intro w'
                 go_simp
                 with_reducible rfl
                rotate_left
                ·simp only [Act.put, s1, s2, s3, i64_w, i32_w]
                 rfl
                refine done_ (done_of HT_.out (by kernel_rfl)) ?_
                try go_wp2_with (first | ((with_reducible refine gate_dst (N := 60) rfl ?_); refine Kd.R_lit (Kd.int .i64) _ 3 ?hg (N := 60) ?hd (xs := ([x15_1, x20_2] : List Int)) (inner := [.int .i64 x15_1, .int .i64 x20_2]) (ok := fun _ => True) (okp := fun _ => True) ?hr ?hp (fun _ hk => hk) trivial (Below.refl _ _) (Nat.le_refl _) (by simp) ?_; (case hd => rfl); (case hg => rfl); (case hr => exact zo'); (case hp => exact (Reps.one (show Kd.M (Kd.int .i64) _ _ _ x15_1 [.int .i64 x15_1] from rfl) (Reps.one (show Kd.M (Kd.int .i64) _ _ _ x20_2 [.int .i64 x20_2] from rfl) (Reps.none _ _)))); intro v194 w23 ho24 hb hg_ hnew_; clear hg_ hnew_; (first | rw [← Ny193.out] at ho24 | (simp only [Int.reduceToNat] at ho24; rw [← Ny193.out] at ho24)); have n0_ := am (Kd.R_elder' ze' (Kd.R_base ho24) hb); have n1_ := am (Kd.S_elder' za2' (Kd.R_base ho24) hb); have n2_ := am (Kd.R_lower (Kd.R_new' ho24 (Kd.R_lt ze')) (below_size za')); have n3_ := am (below_step za' hb); clear HO_7; clear HO_8; clear HB; have HO_7 := n0_; have HO_8 := n1_; have HO195 := n2_; have HB := n3_; clear n0_ n1_ n2_ n3_; clear hb ho24; obtain ⟨Ao26, co26, eo26⟩ := Kd.R_slice HO195.out; subst eo26) | ((with_reducible refine gate_builtin (b := .append) (xs := #[.tmp 57, .tmp 61]) rfl ?_); at_builtin; refine Kd.S_append (Kd.slice 3 (Kd.int .i64)) (w0 := w) w.heap.size rfl (.tmp 57) (.tmp 61) 22 27 (.slice none 0 0) 24 rfl Try.underlying22 info27 rfl (by decide) (by omega) u8 x8_2 y193 [.slice Ao26 y193.length co26] (fun k_ => some k_ ≠ (.slice (some ad191) t180.length co22 : Value).ownBlock) (fun k_ => some k_ = (.slice Ao26 y193.length co26 : Value).ownBlock) rfl rfl ?aP (fun k_ hk_ => ((Kd.R_mono (ok' := fun k_ => ((fun k_ => some k_ ≠ (.slice (some ad191) t180.length co22 : Value).ownBlock)) k_ ∧ some k_ ≠ (u8 : Value).ownBlock) (Kd.R_apart' (HO195.out) (Kd.S_typed HO_8.out) (by decide)) (fun k_ hk => ⟨hk.1.2, hk.2⟩))).1 k_ hk_.symm) ?aF ?aO ?aB ?aS ?aL ?_; (case aP => exact Kd.M_row (Kd.R_mono (Kd.R_tight rfl (Kd.R_mono (ok' := fun k_ => ((fun k_ => some k_ ≠ (.slice (some ad191) t180.length co22 : Value).ownBlock)) k_ ∧ some k_ ≠ (u8 : Value).ownBlock) (Kd.R_apart' (HO195.out) (Kd.S_typed HO_8.out) (by decide)) (fun k_ hk => ⟨hk.1.2, hk.2⟩))) (fun _ h_ => h_))); (case aB => exact za'); (case aF => exact (fun k_ hk => Kd.fresh' (Kd.R_lt ze') k_ hk)); (case aO => exact (by (with_reducible repeat (first | apply Kd.S_alloc | apply Kd.S_drewN | apply Kd.S_drew)); exact Kd.S_mono HO_8.out (fun k_ hk => ⟨hk.1, fun e_ => hk.2 e_⟩))); (case aS => exact zp2'); (case aL => have := LMc20.out; omega); intro v197 w25 ho hb hg hat; rw [← Ny196.out] at ho; have n0_ := am (Kd.R_over' ze' (Kd.S_typed za2') (by decide) hg); have n1_ := am (hb); have n2_ := am (ho); clear HO_7; clear HB; clear HO_8; clear HO195; have HO_7 := n0_; have HB := n1_; have HO198 := n2_; clear n0_ n1_ n2_; clear ho hb hg hat))
                go_roundg k2
                case measure => have := HK1.out; have := HK2.out; omega
                case rel => exact ⟨(y196), (wrap64 (x20_2 + 1)), zj', H', ⟨zb3'⟩, ⟨zi2'⟩, ⟨by (with_reducible repeat (first | apply Kd.S_alloc | apply Kd.S_drewN | apply Kd.S_drew)); exact HO198.out⟩, ⟨za'⟩⟩
               ·rw [if_neg c20] at H
                exact absurd H (by simp)
              ·rw [if_neg c19] at H
               have c19b0 : decide (t189 < t192) = false := decide_eq_false c19; clear c19; have H' := Aside0.mk H; clear H
               try go_wp2
               have n0_ := am (Kd.R_drew HO_7.out); have n1_ := am (Kd.S_drew HO_8.out); have n2_ := am (below_drew1 HB.out); clear HO_7; clear HO_8; clear HB; have HO_7 := n0_; have HO_8 := n1_; have HB := n2_; clear n0_ n1_ n2_; have p183 : 0 ≤ (x15_1 : Int) := odt; have q183 : x15_1 < (l0.length : Int) := odt; obtain ⟨ad183, A183_0, c183_0, e183, hx183_0, hl183_0, hi183_0⟩ := at_L2 HR0.out x15_1 p183 q183; have hw183_0 := hx183_0; cases e183
               try replace hx183_0 := (HB.out.cell (World.block_lt_of_cell? w _ hx183_0)).trans hx183_0
               have HR183_0 := Aside0.mk hi183_0; have HC183_0 := Aside0.mk hl183_0; clear hi183_0 hl183_0; replace p183 := eq_true p183; replace q183 := eq_true q183; have p185 : 0 ≤ (x15_1 : Int) := odt; have q185 : x15_1 < (l0.length : Int) := odt; obtain ⟨ad185, A185_0, c185_0, e185, hx185_0, hl185_0, hi185_0⟩ := at_L2 HR0.out x15_1 p185 q185; have hw185_0 := hx185_0; obtain rfl : ad183 = ad185 := (by injection e185)
               try replace hx185_0 := (HB.out.cell (World.block_lt_of_cell? w _ hx185_0)).trans hx185_0
               have HR185_0 := Aside0.mk hi185_0; have HC185_0 := Aside0.mk hl185_0; clear hi185_0 hl185_0; replace p185 := eq_true p185; replace q185 := eq_true q185; have ea_ := Option.some.inj (hx183_0.symm.trans hx185_0)
               injection ea_ with ea_ en_ ec_
               subst ea_; subst ec_; clear en_; have p186 : 0 ≤ (x15_1 : Int) := odt; have q186 : x15_1 < (l2.length : Int) := odt; obtain ⟨ad186, e186, hx186_0⟩ := Kd.at_int HR2.out x15_1 p186 q186; have hw186_0 := hx186_0; cases e186
               try replace hx186_0 := (HB.out.cell (World.block_lt_of_cell? w _ hx186_0)).trans hx186_0
               replace p186 := eq_true p186; replace q186 := eq_true q186; have p188 : 0 ≤ (x20_2 : Int) := odt; have q188 : x20_2 < (l1.length : Int) := odt; obtain ⟨ad188, A188_0, c188_0, e188, hx188_0, hl188_0, hi188_0⟩ := at_L2 HR1.out x20_2 p188 q188; have hw188_0 := hx188_0; cases e188
               try replace hx188_0 := (HB.out.cell (World.block_lt_of_cell? w _ hx188_0)).trans hx188_0
               have HR188_0 := Aside0.mk hi188_0; have HC188_0 := Aside0.mk hl188_0; clear hi188_0 hl188_0; replace p188 := eq_true p188; replace q188 := eq_true q188; have p190 : 0 ≤ (x20_2 : Int) := odt; have q190 : x20_2 < (l1.length : Int) := odt; obtain ⟨ad190, A190_0, c190_0, e190, hx190_0, hl190_0, hi190_0⟩ := at_L2 HR1.out x20_2 p190 q190; have hw190_0 := hx190_0; obtain rfl : ad188 = ad190 := (by injection e190)
               try replace hx190_0 := (HB.out.cell (World.block_lt_of_cell? w _ hx190_0)).trans hx190_0
               have HR190_0 := Aside0.mk hi190_0; have HC190_0 := Aside0.mk hl190_0; clear hi190_0 hl190_0; replace p190 := eq_true p190; replace q190 := eq_true q190; have ea_ := Option.some.inj (hx188_0.symm.trans hx190_0)
               injection ea_ with ea_ en_ ec_
               subst ea_; subst ec_; clear en_; have p191 : 0 ≤ (x20_2 : Int) := odt; have q191 : x20_2 < (t180.length : Int) := odt; obtain ⟨ad191, e191, hx191_0⟩ := Kd.at_int (Kd.R_reads' HO_7.out).2.2 x20_2 p191 q191; cases e191; replace p191 := eq_true p191; replace q191 := eq_true q191
               refine start_ (n := 34) (S := fun w' => w'.cell? (ad183.add (x15_1).toNat) = some (.slice A183_0 (rd_L2 l0 x15_1).length c183_0) ∧ w'.cell? (ad183.add (x15_1).toNat) = some (.slice A183_0 (rd_L2 l0 x15_1).length c183_0) ∧ w'.cell? (ad186.add (x15_1).toNat) = some (.int .i64 (rd l2 x15_1)) ∧ w'.cell? (ad188.add (x20_2).toNat) = some (.slice A188_0 (rd_L2 l1 x20_2).length c188_0) ∧ w'.cell? (ad188.add (x20_2).toNat) = some (.slice A188_0 (rd_L2 l1 x20_2).length c188_0) ∧ w'.cell? (ad191.add (x20_2).toNat) = some (.int .i64 (rd t180 x20_2))) (ds := []) m0_ (by kernel_rfl) rfl rfl ⟨((HB.out.cell (World.block_lt_of_cell? w _ hw183_0)).trans hw183_0), ((HB.out.cell (World.block_lt_of_cell? w _ hw185_0)).trans hw185_0), ((HB.out.cell (World.block_lt_of_cell? w _ hw186_0)).trans hw186_0), ((HB.out.cell (World.block_lt_of_cell? w _ hw188_0)).trans hw188_0), ((HB.out.cell (World.block_lt_of_cell? w _ hw190_0)).trans hw190_0), hx191_0⟩ (fun hHeld => ?_); refine with_tabW spec_maBlocking.tab9 spec_maBlocking.bits9 (fun HT_ HW_ => ?_)
               generalize wr.drew = w27 at HO_7 HO_8 HB HR183_0 HR185_0 HR188_0 HR190_0 hx183_0 hx185_0 hx186_0 hx188_0 hx190_0 hx191_0 hHeld ⊢
               refine pure_ (i := 0) (N := some 23) (v := ?_) (a' := ?_) m1_ rfl rfl (any_of HT_.out (by kernel_rfl)) (fun _ _ _ h => h) (Or.inl ⟨by rfl, ?_⟩) ?_ ?_
               rotate_left
               ·intro w'
                go_simp
                with_reducible rfl
               rotate_left
               ·simp only [Act.put, s1, s2, s3, i64_w, i32_w]
                rfl
               refine pure_ (i := 1) (N := some 24) (v := ?_) (a' := ?_) m2_ rfl rfl (any_of HT_.out (by kernel_rfl)) (fun _ _ _ h => h) (Or.inl ⟨by rfl, ?_⟩) ?_ ?_
               rotate_left
               ·intro w'
                go_simp
                with_reducible rfl
               rotate_left
               ·simp only [Act.put, s1, s2, s3, i64_w, i32_w]
                rfl
               refine pure_ (i := 2) (N := some 25) (v := ?_) (a' := ?_) m3_ rfl rfl (any_of HT_.out (by kernel_rfl)) (fun _ _ _ h => h) (Or.inl ⟨by rfl, ?_⟩) ?_ ?_
               rotate_left
               ·intro w'
                go_simp
                with_reducible rfl
               rotate_left
               ·simp only [Act.put, s1, s2, s3, i64_w, i32_w]
                rfl
               refine pure_ (i := 4) (N := some 27) (v := ?_) (a' := ?_) m4_ rfl rfl (any_of HT_.out (by kernel_rfl)) (fun _ _ _ h => h) (Or.inl ⟨by rfl, ?_⟩) ?_ ?_
               rotate_left
               ·intro w'
                go_simp
                with_reducible rfl
               rotate_left
               ·simp only [Act.put, s1, s2, s3, i64_w, i32_w]
                rfl
               refine pure_ (i := 6) (N := some 29) (v := ?_) (a' := ?_) m5_ rfl rfl (any_of HT_.out (by kernel_rfl)) (fun _ _ _ h => h) (Or.inl ⟨by rfl, ?_⟩) ?_ ?_
               rotate_left
               ·intro w'
                go_simp
                with_reducible rfl
               rotate_left
               ·simp only [Act.put, s1, s2, s3, i64_w, i32_w]
                rfl
               refine pure_ (i := 7) (N := some 30) (v := ?_) (a' := ?_) m6_ rfl rfl (any_of HT_.out (by kernel_rfl)) (fun _ _ _ h => h) (Or.inl ⟨by rfl, ?_⟩) ?_ ?_
               rotate_left
               ·intro w'
                go_simp
                with_reducible rfl
               rotate_left
               ·simp only [Act.put, s1, s2, s3, i64_w, i32_w]
                rfl
               refine pure_ (i := 8) (N := some 31) (v := ?_) (a' := ?_) m7_ rfl rfl (any_of HT_.out (by kernel_rfl)) (fun _ _ _ h => h) (Or.inl ⟨by rfl, ?_⟩) ?_ ?_
               rotate_left
               ·intro w'
                go_simp
                with_reducible rfl
               rotate_left
               ·simp only [Act.put, s1, s2, s3, i64_w, i32_w]
                rfl
               refine pure_ (i := 10) (N := some 33) (v := ?_) (a' := ?_) m8_ rfl rfl (any_of HT_.out (by kernel_rfl)) (fun _ _ _ h => h) (Or.inl ⟨by rfl, ?_⟩) ?_ ?_
               rotate_left
               ·intro w'
                go_simp
                with_reducible rfl
               rotate_left
               ·simp only [Act.put, s1, s2, s3, i64_w, i32_w]
                rfl
               refine pure_ (i := 11) (N := some 34) (v := ?_) (a' := ?_) m9_ rfl rfl (any_of HT_.out (by kernel_rfl)) (fun _ _ _ h => h) (Or.inl ⟨by rfl, ?_⟩) ?_ ?_
               rotate_left
               ·intro w'
                go_simp
                with_reducible rfl
               rotate_left
               ·simp only [Act.put, s1, s2, s3, i64_w, i32_w]
                rfl
               refine pure_ (i := 12) (N := some 35) (v := ?_) (a' := ?_) m10_ rfl rfl (any_of HT_.out (by kernel_rfl)) (fun _ _ _ h => h) (Or.inl ⟨by rfl, ?_⟩) ?_ ?_
               rotate_left
               ·intro w'
                go_simp
                with_reducible rfl
               rotate_left
               ·simp only [Act.put, s1, s2, s3, i64_w, i32_w]
                rfl
               refine take_ (i := 3) (N := some 26) (v := ?_) (a' := ?_) m11_ rfl rfl (take_ofW HT_.out HW_.out (by kernel_rfl)) (fun _ _ _ h => h) (Or.inl ⟨by rfl, ?_⟩) hHeld ?_ ?_
               rotate_left
               ·rintro w' ⟨s0, s1, s2, s3, s4, s5⟩
                go_simp
                with_reducible rfl
               rotate_left
               ·simp only [Act.put, s1, s2, s3, i64_w, i32_w]
                rfl
               refine take_ (i := 9) (N := some 32) (v := ?_) (a' := ?_) m12_ rfl rfl (take_ofW HT_.out HW_.out (by kernel_rfl)) (fun _ _ _ h => h) (Or.inl ⟨by rfl, ?_⟩) hHeld ?_ ?_
               rotate_left
               ·rintro w' ⟨s0, s1, s2, s3, s4, s5⟩
                go_simp
                with_reducible rfl
               rotate_left
               ·simp only [Act.put, s1, s2, s3, i64_w, i32_w]
                rfl
               refine take_ (i := 13) (N := some 36) (v := ?_) (a' := ?_) m13_ rfl rfl (take_ofW HT_.out HW_.out (by kernel_rfl)) (fun _ _ _ h => h) (Or.inl ⟨by rfl, ?_⟩) hHeld ?_ ?_
               rotate_left
               ·rintro w' ⟨s0, s1, s2, s3, s4, s5⟩
                go_simp
                with_reducible rfl
               rotate_left
               ·simp only [Act.put, s1, s2, s3, i64_w, i32_w]
                rfl
               refine one_ (i := 5) (N := some 28) m14_ rfl rfl (one_of HT_.out (by kernel_rfl)) (by decide) (fun K hK => ?_)
               refine goes_ Try.func86 (by kernel_rfl) rfl #[.slice A183_0 (rd_L2 l0 x15_1).length c183_0, .int .i64 x20_2] (by rfl) rfl rfl zb' ?_
               with_reducible refine (spec_maRank.calls k2 _ _ (rd_L2 l0 x15_1) x20_2 t184 _ ?side1 ?side2 A10.out).mono ?_
               (case side1 => exact zj2')
               (case side2 => exact HC183_0.out)
               rintro e w' ⟨rfl, ⟨nd, rfl⟩⟩
               refine ⟨_, rfl, ?_⟩
               refine hK.out _ _ ⟨((HB.out.cell (World.block_lt_of_cell? w _ hw183_0)).trans hw183_0), ((HB.out.cell (World.block_lt_of_cell? w _ hw185_0)).trans hw185_0), ((HB.out.cell (World.block_lt_of_cell? w _ hw186_0)).trans hw186_0), ((HB.out.cell (World.block_lt_of_cell? w _ hw188_0)).trans hw188_0), ((HB.out.cell (World.block_lt_of_cell? w _ hw190_0)).trans hw190_0), hHeld.2.2.2.2.2⟩ (fun hHeld => ?_)
               clear hK K
               refine norm_ (a' := ?_) ?_ ?_
               rotate_left
               ·show Act.put _ (some 28) _ = _
                simp only [Act.put, s1, s2, s3, i64_w, i32_w]
                rfl
               refine one_ (i := 14) (N := some 37) m15_ rfl rfl (one_of HT_.out (by kernel_rfl)) (by decide) (fun K hK => ?_)
               refine goes_ Try.func86 (by kernel_rfl) rfl #[.slice A183_0 (rd_L2 l0 x15_1).length c183_0, .int .i64 (rd l2 x15_1)] (by rfl) rfl rfl zb' ?_
               with_reducible refine (spec_maRank.calls k2 _ _ (rd_L2 l0 x15_1) (rd l2 x15_1) t187 _ ?side1 ?side2 A12.out).mono ?_
               (case side1 => exact zm2')
               (case side2 => exact HC185_0.out)
               rintro e w' ⟨rfl, ⟨nd, rfl⟩⟩
               refine ⟨_, rfl, ?_⟩
               refine hK.out _ _ ⟨((HB.out.cell (World.block_lt_of_cell? w _ hw183_0)).trans hw183_0), ((HB.out.cell (World.block_lt_of_cell? w _ hw185_0)).trans hw185_0), ((HB.out.cell (World.block_lt_of_cell? w _ hw186_0)).trans hw186_0), ((HB.out.cell (World.block_lt_of_cell? w _ hw188_0)).trans hw188_0), ((HB.out.cell (World.block_lt_of_cell? w _ hw190_0)).trans hw190_0), hHeld.2.2.2.2.2⟩ (fun hHeld => ?_)
               clear hK K
               refine norm_ (a' := ?_) ?_ ?_
               rotate_left
               ·show Act.put _ (some 37) _ = _
                simp only [Act.put, s1, s2, s3, i64_w, i32_w]
                rfl
               refine pure_ (i := 15) (N := some 38) (v := ?_) (a' := ?_) m16_ rfl rfl (any_of HT_.out (by kernel_rfl)) (fun _ _ _ h => h) (Or.inl ⟨by rfl, ?_⟩) ?_ ?_
               rotate_left
               ·intro w'
                go_simp
                with_reducible rfl
               rotate_left
               ·simp only [Act.put, s1, s2, s3, i64_w, i32_w]
                rfl
               refine pure_ (i := 16) (N := some 39) (v := ?_) (a' := ?_) m17_ rfl rfl (any_of HT_.out (by kernel_rfl)) (fun _ _ _ h => h) (Or.inl ⟨by rfl, ?_⟩) ?_ ?_
               rotate_left
               ·intro w'
                go_simp
                with_reducible rfl
               rotate_left
               ·simp only [Act.put, s1, s2, s3, i64_w, i32_w]
                rfl
               refine pure_ (i := 17) (N := some 40) (v := ?_) (a' := ?_) m18_ rfl rfl (any_of HT_.out (by kernel_rfl)) (fun _ _ _ h => h) (Or.inl ⟨by rfl, ?_⟩) ?_ ?_
               rotate_left
               ·intro w'
                go_simp
                with_reducible rfl
               rotate_left
               ·simp only [Act.put, s1, s2, s3, i64_w, i32_w]
                rfl
               refine pure_ (i := 18) (N := some 41) (v := ?_) (a' := ?_) m19_ rfl rfl (any_of HT_.out (by kernel_rfl)) (fun _ _ _ h => h) (Or.inl ⟨by rfl, ?_⟩) ?_ ?_
               rotate_left
               ·intro w'
                go_simp
                with_reducible rfl
               rotate_left
               ·simp only [Act.put, s1, s2, s3, i64_w, i32_w]
                rfl
               refine pure_ (i := 19) (N := some 42) (v := ?_) (a' := ?_) m20_ rfl rfl (any_of HT_.out (by kernel_rfl)) (fun _ _ _ h => h) (Or.inl ⟨by rfl, ?_⟩) ?_ ?_
               rotate_left
               ·intro w'
                go_simp
                with_reducible rfl
               rotate_left
               ·simp only [Act.put, s1, s2, s3, i64_w, i32_w]
                rfl
               refine pure_ (i := 21) (N := some 44) (v := ?_) (a' := ?_) m21_ rfl rfl (any_of HT_.out (by kernel_rfl)) (fun _ _ _ h => h) (Or.inl ⟨by rfl, ?_⟩) ?_ ?_
               rotate_left
               ·intro w'
                go_simp
                with_reducible rfl
               rotate_left
               ·simp only [Act.put, s1, s2, s3, i64_w, i32_w]
                rfl
               refine pure_ (i := 23) (N := some 46) (v := ?_) (a' := ?_) m22_ rfl rfl (any_of HT_.out (by kernel_rfl)) (fun _ _ _ h => h) (Or.inl ⟨by rfl, ?_⟩) ?_ ?_
               rotate_left
               ·intro w'
                go_simp
                with_reducible rfl
               rotate_left
               ·simp only [Act.put, s1, s2, s3, i64_w, i32_w]
                rfl
               refine pure_ (i := 24) (N := some 47) (v := ?_) (a' := ?_) m23_ rfl rfl (any_of HT_.out (by kernel_rfl)) (fun _ _ _ h => h) (Or.inl ⟨by rfl, ?_⟩) ?_ ?_
               rotate_left
               ·intro w'
                go_simp
                with_reducible rfl
               rotate_left
               ·simp only [Act.put, s1, s2, s3, i64_w, i32_w]
                rfl
               refine pure_ (i := 25) (N := some 48) (v := ?_) (a' := ?_) m24_ rfl rfl (any_of HT_.out (by kernel_rfl)) (fun _ _ _ h => h) (Or.inl ⟨by rfl, ?_⟩) ?_ ?_
               rotate_left
               ·intro w'
                go_simp
                with_reducible rfl
               rotate_left
               ·simp only [Act.put, s1, s2, s3, i64_w, i32_w]
                rfl
               refine pure_ (i := 27) (N := some 50) (v := ?_) (a' := ?_) m25_ rfl rfl (any_of HT_.out (by kernel_rfl)) (fun _ _ _ h => h) (Or.inl ⟨by rfl, ?_⟩) ?_ ?_
               rotate_left
               ·intro w'
                go_simp
                with_reducible rfl
               rotate_left
               ·simp only [Act.put, s1, s2, s3, i64_w, i32_w]
                rfl
               refine pure_ (i := 28) (N := some 51) (v := ?_) (a' := ?_) m26_ rfl rfl (any_of HT_.out (by kernel_rfl)) (fun _ _ _ h => h) (Or.inl ⟨by rfl, ?_⟩) ?_ ?_
               rotate_left
               ·intro w'
                go_simp
                with_reducible rfl
               rotate_left
               ·simp only [Act.put, s1, s2, s3, i64_w, i32_w]
                rfl
               refine pure_ (i := 29) (N := some 52) (v := ?_) (a' := ?_) m27_ rfl rfl (any_of HT_.out (by kernel_rfl)) (fun _ _ _ h => h) (Or.inl ⟨by rfl, ?_⟩) ?_ ?_
               rotate_left
               ·intro w'
                go_simp
                with_reducible rfl
               rotate_left
               ·simp only [Act.put, s1, s2, s3, i64_w, i32_w]
                rfl
               refine take_ (i := 20) (N := some 43) (v := ?_) (a' := ?_) m28_ rfl rfl (take_ofW HT_.out HW_.out (by kernel_rfl)) (fun _ _ _ h => h) (Or.inl ⟨by rfl, ?_⟩) hHeld ?_ ?_
               rotate_left
               ·rintro w' ⟨s0, s1, s2, s3, s4, s5⟩
                go_simp
                with_reducible rfl
               rotate_left
               ·simp only [Act.put, s1, s2, s3, i64_w, i32_w]
                rfl
               refine take_ (i := 26) (N := some 49) (v := ?_) (a' := ?_) m29_ rfl rfl (take_ofW HT_.out HW_.out (by kernel_rfl)) (fun _ _ _ h => h) (Or.inl ⟨by rfl, ?_⟩) hHeld ?_ ?_
               rotate_left
               ·rintro w' ⟨s0, s1, s2, s3, s4, s5⟩
                go_simp
                with_reducible rfl
               rotate_left
               ·simp only [Act.put, s1, s2, s3, i64_w, i32_w]
                rfl
               refine take_ (i := 30) (N := some 53) (v := ?_) (a' := ?_) m30_ rfl rfl (take_ofW HT_.out HW_.out (by kernel_rfl)) (fun _ _ _ h => h) (Or.inl ⟨by rfl, ?_⟩) hHeld ?_ ?_
               rotate_left
               ·rintro w' ⟨s0, s1, s2, s3, s4, s5⟩
                go_simp
                with_reducible rfl
               rotate_left
               ·simp only [Act.put, s1, s2, s3, i64_w, i32_w]
                rfl
               refine one_ (i := 22) (N := some 45) m31_ rfl rfl (one_of HT_.out (by kernel_rfl)) (by decide) (fun K hK => ?_)
               refine goes_ Try.func86 (by kernel_rfl) rfl #[.slice A188_0 (rd_L2 l1 x20_2).length c188_0, .int .i64 x15_1] (by rfl) rfl rfl zb' ?_
               with_reducible refine (spec_maRank.calls k2 _ _ (rd_L2 l1 x20_2) x15_1 t189 _ ?side1 ?side2 A16.out).mono ?_
               (case side1 => exact zw3')
               (case side2 => exact HC188_0.out)
               rintro e w' ⟨rfl, ⟨nd, rfl⟩⟩
               refine ⟨_, rfl, ?_⟩
               obtain ⟨Ao28, co28, eo28⟩ := Kd.R_slice HO_7.out
               (first | subst eo28 | (injection eo28 with f1_ f2_ f3_; have f4_ := f1_.symm; have f5_ := f3_.symm; clear f1_ f2_ f3_; subst f4_; subst f5_))
               refine hK.out _ _ ⟨((HB.out.cell (World.block_lt_of_cell? w _ hw183_0)).trans hw183_0), ((HB.out.cell (World.block_lt_of_cell? w _ hw185_0)).trans hw185_0), ((HB.out.cell (World.block_lt_of_cell? w _ hw186_0)).trans hw186_0), ((HB.out.cell (World.block_lt_of_cell? w _ hw188_0)).trans hw188_0), ((HB.out.cell (World.block_lt_of_cell? w _ hw190_0)).trans hw190_0), hHeld.2.2.2.2.2⟩ (fun hHeld => ?_)
               clear hK K
               refine norm_ (a' := ?_) ?_ ?_
               rotate_left
               ·show Act.put _ (some 45) _ = _
                simp only [Act.put, s1, s2, s3, i64_w, i32_w]
                rfl
               refine one_ (i := 31) (N := some 54) m32_ rfl rfl (one_of HT_.out (by kernel_rfl)) (by decide) (fun K hK => ?_)
               refine goes_ Try.func86 (by kernel_rfl) rfl #[.slice A188_0 (rd_L2 l1 x20_2).length c188_0, .int .i64 (rd t180 x20_2)] (by rfl) rfl rfl zb' ?_
               with_reducible refine (spec_maRank.calls k2 _ _ (rd_L2 l1 x20_2) (rd t180 x20_2) t192 _ ?side1 ?side2 A18.out).mono ?_
               (case side1 => exact zx3')
               (case side2 => exact HC190_0.out)
               rintro e w' ⟨rfl, ⟨nd, rfl⟩⟩
               refine ⟨_, rfl, ?_⟩
               refine hK.out _ _ ⟨((HB.out.cell (World.block_lt_of_cell? w _ hw183_0)).trans hw183_0), ((HB.out.cell (World.block_lt_of_cell? w _ hw185_0)).trans hw185_0), ((HB.out.cell (World.block_lt_of_cell? w _ hw186_0)).trans hw186_0), ((HB.out.cell (World.block_lt_of_cell? w _ hw188_0)).trans hw188_0), ((HB.out.cell (World.block_lt_of_cell? w _ hw190_0)).trans hw190_0), hHeld.2.2.2.2.2⟩ (fun hHeld => ?_)
               clear hK K
               refine norm_ (a' := ?_) ?_ ?_
               rotate_left
               ·show Act.put _ (some 54) _ = _
                simp only [Act.put, s1, s2, s3, i64_w, i32_w]
                rfl
               refine pure_ (i := 32) (N := some 55) (v := ?_) (a' := ?_) m33_ rfl rfl (any_of HT_.out (by kernel_rfl)) (fun _ _ _ h => h) (Or.inl ⟨by rfl, ?_⟩) ?_ ?_
               rotate_left
               ·intro w'
                go_simp
                with_reducible rfl
               rotate_left
               ·simp only [Act.put, s1, s2, s3, i64_w, i32_w]
                rfl
               refine pure_ (i := 33) (N := some 56) (v := ?_) (a' := ?_) m34_ rfl rfl (any_of HT_.out (by kernel_rfl)) (fun _ _ _ h => h) (Or.inl ⟨by rfl, ?_⟩) ?_ ?_
               rotate_left
               ·intro w'
                go_simp
                with_reducible rfl
               rotate_left
               ·simp only [Act.put, s1, s2, s3, i64_w, i32_w]
                rfl
               refine done_ (done_of HT_.out (by kernel_rfl)) ?_
               try go_wp2
               go_roundg k2
               case measure => have := HK1.out; have := HK2.out; omega
               case rel => exact ⟨(x8_2), (wrap64 (x20_2 + 1)), zj', H', ⟨zb3'⟩, ⟨ze'⟩, ⟨za2'⟩, ⟨za'⟩⟩
             ·rw [if_neg c17] at H
              exact absurd H (by simp)
            ·rw [if_neg c15] at H
             exact absurd H (by simp)
           ·rw [if_neg c14] at H
            exact absurd H (by simp)
          ·rw [if_neg c13] at H
           have c13b0 : decide (t184 < t187) = false := decide_eq_false c13; clear c13; have H' := Aside0.mk H; clear H
           try go_wp2
           have n0_ := am (Kd.R_drew HO_7.out); have n1_ := am (Kd.S_drew HO_8.out); have n2_ := am (below_drew1 HB.out); clear HO_7; clear HO_8; clear HB; have HO_7 := n0_; have HO_8 := n1_; have HB := n2_; clear n0_ n1_ n2_; have p183 : 0 ≤ (x15_1 : Int) := odt; have q183 : x15_1 < (l0.length : Int) := odt; obtain ⟨ad183, A183_0, c183_0, e183, hx183_0, hl183_0, hi183_0⟩ := at_L2 HR0.out x15_1 p183 q183; have hw183_0 := hx183_0; cases e183
           try replace hx183_0 := (HB.out.cell (World.block_lt_of_cell? w _ hx183_0)).trans hx183_0
           have HR183_0 := Aside0.mk hi183_0; have HC183_0 := Aside0.mk hl183_0; clear hi183_0 hl183_0; replace p183 := eq_true p183; replace q183 := eq_true q183; have p185 : 0 ≤ (x15_1 : Int) := odt; have q185 : x15_1 < (l0.length : Int) := odt; obtain ⟨ad185, A185_0, c185_0, e185, hx185_0, hl185_0, hi185_0⟩ := at_L2 HR0.out x15_1 p185 q185; have hw185_0 := hx185_0; obtain rfl : ad183 = ad185 := (by injection e185)
           try replace hx185_0 := (HB.out.cell (World.block_lt_of_cell? w _ hx185_0)).trans hx185_0
           have HR185_0 := Aside0.mk hi185_0; have HC185_0 := Aside0.mk hl185_0; clear hi185_0 hl185_0; replace p185 := eq_true p185; replace q185 := eq_true q185; have ea_ := Option.some.inj (hx183_0.symm.trans hx185_0)
           injection ea_ with ea_ en_ ec_
           subst ea_; subst ec_; clear en_; have p186 : 0 ≤ (x15_1 : Int) := odt; have q186 : x15_1 < (l2.length : Int) := odt; obtain ⟨ad186, e186, hx186_0⟩ := Kd.at_int HR2.out x15_1 p186 q186; have hw186_0 := hx186_0; cases e186
           try replace hx186_0 := (HB.out.cell (World.block_lt_of_cell? w _ hx186_0)).trans hx186_0
           replace p186 := eq_true p186; replace q186 := eq_true q186
           refine start_ (n := 34) (S := fun w' => w'.cell? (ad183.add (x15_1).toNat) = some (.slice A183_0 (rd_L2 l0 x15_1).length c183_0) ∧ w'.cell? (ad183.add (x15_1).toNat) = some (.slice A183_0 (rd_L2 l0 x15_1).length c183_0) ∧ w'.cell? (ad186.add (x15_1).toNat) = some (.int .i64 (rd l2 x15_1))) (ds := []) m0_ (by kernel_rfl) rfl rfl ⟨((HB.out.cell (World.block_lt_of_cell? w _ hw183_0)).trans hw183_0), ((HB.out.cell (World.block_lt_of_cell? w _ hw185_0)).trans hw185_0), ((HB.out.cell (World.block_lt_of_cell? w _ hw186_0)).trans hw186_0)⟩ (fun hHeld => ?_); refine with_tabW spec_maBlocking.tab9 spec_maBlocking.bits9 (fun HT_ HW_ => ?_)
           generalize wr.drew = w29 at HO_7 HO_8 HB HR183_0 HR185_0 hx183_0 hx185_0 hx186_0 hHeld ⊢
           refine pure_ (i := 0) (N := some 23) (v := ?_) (a' := ?_) m1_ rfl rfl (any_of HT_.out (by kernel_rfl)) (fun _ _ _ h => h) (Or.inl ⟨by rfl, ?_⟩) ?_ ?_
           rotate_left
           ·intro w'
            go_simp
            with_reducible rfl
           rotate_left
           ·simp only [Act.put, s1, s2, s3, i64_w, i32_w]
            rfl
           refine pure_ (i := 1) (N := some 24) (v := ?_) (a' := ?_) m2_ rfl rfl (any_of HT_.out (by kernel_rfl)) (fun _ _ _ h => h) (Or.inl ⟨by rfl, ?_⟩) ?_ ?_
           rotate_left
           ·intro w'
            go_simp
            with_reducible rfl
           rotate_left
           ·simp only [Act.put, s1, s2, s3, i64_w, i32_w]
            rfl
           refine pure_ (i := 2) (N := some 25) (v := ?_) (a' := ?_) m3_ rfl rfl (any_of HT_.out (by kernel_rfl)) (fun _ _ _ h => h) (Or.inl ⟨by rfl, ?_⟩) ?_ ?_
           rotate_left
           ·intro w'
            go_simp
            with_reducible rfl
           rotate_left
           ·simp only [Act.put, s1, s2, s3, i64_w, i32_w]
            rfl
           refine pure_ (i := 4) (N := some 27) (v := ?_) (a' := ?_) m4_ rfl rfl (any_of HT_.out (by kernel_rfl)) (fun _ _ _ h => h) (Or.inl ⟨by rfl, ?_⟩) ?_ ?_
           rotate_left
           ·intro w'
            go_simp
            with_reducible rfl
           rotate_left
           ·simp only [Act.put, s1, s2, s3, i64_w, i32_w]
            rfl
           refine pure_ (i := 6) (N := some 29) (v := ?_) (a' := ?_) m5_ rfl rfl (any_of HT_.out (by kernel_rfl)) (fun _ _ _ h => h) (Or.inl ⟨by rfl, ?_⟩) ?_ ?_
           rotate_left
           ·intro w'
            go_simp
            with_reducible rfl
           rotate_left
           ·simp only [Act.put, s1, s2, s3, i64_w, i32_w]
            rfl
           refine pure_ (i := 7) (N := some 30) (v := ?_) (a' := ?_) m6_ rfl rfl (any_of HT_.out (by kernel_rfl)) (fun _ _ _ h => h) (Or.inl ⟨by rfl, ?_⟩) ?_ ?_
           rotate_left
           ·intro w'
            go_simp
            with_reducible rfl
           rotate_left
           ·simp only [Act.put, s1, s2, s3, i64_w, i32_w]
            rfl
           refine pure_ (i := 8) (N := some 31) (v := ?_) (a' := ?_) m7_ rfl rfl (any_of HT_.out (by kernel_rfl)) (fun _ _ _ h => h) (Or.inl ⟨by rfl, ?_⟩) ?_ ?_
           rotate_left
           ·intro w'
            go_simp
            with_reducible rfl
           rotate_left
           ·simp only [Act.put, s1, s2, s3, i64_w, i32_w]
            rfl
           refine pure_ (i := 10) (N := some 33) (v := ?_) (a' := ?_) m8_ rfl rfl (any_of HT_.out (by kernel_rfl)) (fun _ _ _ h => h) (Or.inl ⟨by rfl, ?_⟩) ?_ ?_
           rotate_left
           ·intro w'
            go_simp
            with_reducible rfl
           rotate_left
           ·simp only [Act.put, s1, s2, s3, i64_w, i32_w]
            rfl
           refine pure_ (i := 11) (N := some 34) (v := ?_) (a' := ?_) m9_ rfl rfl (any_of HT_.out (by kernel_rfl)) (fun _ _ _ h => h) (Or.inl ⟨by rfl, ?_⟩) ?_ ?_
           rotate_left
           ·intro w'
            go_simp
            with_reducible rfl
           rotate_left
           ·simp only [Act.put, s1, s2, s3, i64_w, i32_w]
            rfl
           refine pure_ (i := 12) (N := some 35) (v := ?_) (a' := ?_) m10_ rfl rfl (any_of HT_.out (by kernel_rfl)) (fun _ _ _ h => h) (Or.inl ⟨by rfl, ?_⟩) ?_ ?_
           rotate_left
           ·intro w'
            go_simp
            with_reducible rfl
           rotate_left
           ·simp only [Act.put, s1, s2, s3, i64_w, i32_w]
            rfl
           refine take_ (i := 3) (N := some 26) (v := ?_) (a' := ?_) m11_ rfl rfl (take_ofW HT_.out HW_.out (by kernel_rfl)) (fun _ _ _ h => h) (Or.inl ⟨by rfl, ?_⟩) hHeld ?_ ?_
           rotate_left
           ·rintro w' ⟨s0, s1, s2⟩
            go_simp
            with_reducible rfl
           rotate_left
           ·simp only [Act.put, s1, s2, s3, i64_w, i32_w]
            rfl
           refine take_ (i := 9) (N := some 32) (v := ?_) (a' := ?_) m12_ rfl rfl (take_ofW HT_.out HW_.out (by kernel_rfl)) (fun _ _ _ h => h) (Or.inl ⟨by rfl, ?_⟩) hHeld ?_ ?_
           rotate_left
           ·rintro w' ⟨s0, s1, s2⟩
            go_simp
            with_reducible rfl
           rotate_left
           ·simp only [Act.put, s1, s2, s3, i64_w, i32_w]
            rfl
           refine take_ (i := 13) (N := some 36) (v := ?_) (a' := ?_) m13_ rfl rfl (take_ofW HT_.out HW_.out (by kernel_rfl)) (fun _ _ _ h => h) (Or.inl ⟨by rfl, ?_⟩) hHeld ?_ ?_
           rotate_left
           ·rintro w' ⟨s0, s1, s2⟩
            go_simp
            with_reducible rfl
           rotate_left
           ·simp only [Act.put, s1, s2, s3, i64_w, i32_w]
            rfl
           refine one_ (i := 5) (N := some 28) m14_ rfl rfl (one_of HT_.out (by kernel_rfl)) (by decide) (fun K hK => ?_)
           refine goes_ Try.func86 (by kernel_rfl) rfl #[.slice A183_0 (rd_L2 l0 x15_1).length c183_0, .int .i64 x20_2] (by rfl) rfl rfl zb' ?_
           with_reducible refine (spec_maRank.calls k2 _ _ (rd_L2 l0 x15_1) x20_2 t184 _ ?side1 ?side2 A10.out).mono ?_
           (case side1 => exact zj2')
           (case side2 => exact HC183_0.out)
           rintro e w' ⟨rfl, ⟨nd, rfl⟩⟩
           refine ⟨_, rfl, ?_⟩
           refine hK.out _ _ ⟨((HB.out.cell (World.block_lt_of_cell? w _ hw183_0)).trans hw183_0), ((HB.out.cell (World.block_lt_of_cell? w _ hw185_0)).trans hw185_0), ((HB.out.cell (World.block_lt_of_cell? w _ hw186_0)).trans hw186_0)⟩ (fun hHeld => ?_)
           clear hK K
           refine norm_ (a' := ?_) ?_ ?_
           rotate_left
           ·show Act.put _ (some 28) _ = _
            simp only [Act.put, s1, s2, s3, i64_w, i32_w]
            rfl
           refine one_ (i := 14) (N := some 37) m15_ rfl rfl (one_of HT_.out (by kernel_rfl)) (by decide) (fun K hK => ?_)
           refine goes_ Try.func86 (by kernel_rfl) rfl #[.slice A183_0 (rd_L2 l0 x15_1).length c183_0, .int .i64 (rd l2 x15_1)] (by rfl) rfl rfl zb' ?_
           with_reducible refine (spec_maRank.calls k2 _ _ (rd_L2 l0 x15_1) (rd l2 x15_1) t187 _ ?side1 ?side2 A12.out).mono ?_
           (case side1 => exact zm2')
           (case side2 => exact HC185_0.out)
           rintro e w' ⟨rfl, ⟨nd, rfl⟩⟩
           refine ⟨_, rfl, ?_⟩
           refine hK.out _ _ ⟨((HB.out.cell (World.block_lt_of_cell? w _ hw183_0)).trans hw183_0), ((HB.out.cell (World.block_lt_of_cell? w _ hw185_0)).trans hw185_0), ((HB.out.cell (World.block_lt_of_cell? w _ hw186_0)).trans hw186_0)⟩ (fun hHeld => ?_)
           clear hK K
           refine norm_ (a' := ?_) ?_ ?_
           rotate_left
           ·show Act.put _ (some 37) _ = _
            simp only [Act.put, s1, s2, s3, i64_w, i32_w]
            rfl
           refine pure_ (i := 15) (N := some 38) (v := ?_) (a' := ?_) m16_ rfl rfl (any_of HT_.out (by kernel_rfl)) (fun _ _ _ h => h) (Or.inl ⟨by rfl, ?_⟩) ?_ ?_
           rotate_left
           ·intro w'
            go_simp
            with_reducible rfl
           rotate_left
           ·simp only [Act.put, s1, s2, s3, i64_w, i32_w]
            rfl
           refine pure_ (i := 16) (N := some 39) (v := ?_) (a' := ?_) m17_ rfl rfl (any_of HT_.out (by kernel_rfl)) (fun _ _ _ h => h) (Or.inl ⟨by rfl, ?_⟩) ?_ ?_
           rotate_left
           ·intro w'
            go_simp
            with_reducible rfl
           rotate_left
           ·simp only [Act.put, s1, s2, s3, i64_w, i32_w]
            rfl
           refine pure_ (i := 17) (N := some 40) (v := undef) (a' := ?_) m18_ rfl rfl (any_of HT_.out (by kernel_rfl)) (fun _ _ _ h => h) (Or.inr ⟨by rfl, rfl⟩) ?_ ?_
           rotate_left
           ·simp only [Act.put, s1, s2, s3, i64_w, i32_w]
            rfl
           refine pure_ (i := 18) (N := some 41) (v := undef) (a' := ?_) m19_ rfl rfl (any_of HT_.out (by kernel_rfl)) (fun _ _ _ h => h) (Or.inr ⟨by rfl, rfl⟩) ?_ ?_
           rotate_left
           ·simp only [Act.put, s1, s2, s3, i64_w, i32_w]
            rfl
           refine pure_ (i := 19) (N := some 42) (v := undef) (a' := ?_) m20_ rfl rfl (any_of HT_.out (by kernel_rfl)) (fun _ _ _ h => h) (Or.inr ⟨by rfl, rfl⟩) ?_ ?_
           rotate_left
           ·simp only [Act.put, s1, s2, s3, i64_w, i32_w]
            rfl
           refine pure_ (i := 20) (N := some 43) (v := undef) (a' := ?_) m35_ rfl rfl (any_of HT_.out (by kernel_rfl)) (fun _ _ _ h => h) (Or.inr ⟨by rfl, rfl⟩) ?_ ?_
           rotate_left
           ·simp only [Act.put, s1, s2, s3, i64_w, i32_w]
            rfl
           refine pure_ (i := 21) (N := some 44) (v := undef) (a' := ?_) m36_ rfl rfl (any_of HT_.out (by kernel_rfl)) (fun _ _ _ h => h) (Or.inr ⟨by rfl, rfl⟩) ?_ ?_
           rotate_left
           ·simp only [Act.put, s1, s2, s3, i64_w, i32_w]
            rfl
           refine pure_ (i := 22) (N := some 45) (v := undef) (a' := ?_) m37_ rfl rfl (any_of HT_.out (by kernel_rfl)) (fun _ _ _ h => h) (Or.inr ⟨by rfl, rfl⟩) ?_ ?_
           rotate_left
           ·simp only [Act.put, s1, s2, s3, i64_w, i32_w]
            rfl
           refine pure_ (i := 23) (N := some 46) (v := undef) (a' := ?_) m38_ rfl rfl (any_of HT_.out (by kernel_rfl)) (fun _ _ _ h => h) (Or.inr ⟨by rfl, rfl⟩) ?_ ?_
           rotate_left
           ·simp only [Act.put, s1, s2, s3, i64_w, i32_w]
            rfl
           refine pure_ (i := 24) (N := some 47) (v := undef) (a' := ?_) m39_ rfl rfl (any_of HT_.out (by kernel_rfl)) (fun _ _ _ h => h) (Or.inr ⟨by rfl, rfl⟩) ?_ ?_
           rotate_left
           ·simp only [Act.put, s1, s2, s3, i64_w, i32_w]
            rfl
           refine pure_ (i := 25) (N := some 48) (v := undef) (a' := ?_) m40_ rfl rfl (any_of HT_.out (by kernel_rfl)) (fun _ _ _ h => h) (Or.inr ⟨by rfl, rfl⟩) ?_ ?_
           rotate_left
           ·simp only [Act.put, s1, s2, s3, i64_w, i32_w]
            rfl
           refine pure_ (i := 26) (N := some 49) (v := undef) (a' := ?_) m41_ rfl rfl (any_of HT_.out (by kernel_rfl)) (fun _ _ _ h => h) (Or.inr ⟨by rfl, rfl⟩) ?_ ?_
           rotate_left
           ·simp only [Act.put, s1, s2, s3, i64_w, i32_w]
            rfl
           refine pure_ (i := 27) (N := some 50) (v := undef) (a' := ?_) m42_ rfl rfl (any_of HT_.out (by kernel_rfl)) (fun _ _ _ h => h) (Or.inr ⟨by rfl, rfl⟩) ?_ ?_
           rotate_left
           ·simp only [Act.put, s1, s2, s3, i64_w, i32_w]
            rfl
           refine pure_ (i := 28) (N := some 51) (v := undef) (a' := ?_) m43_ rfl rfl (any_of HT_.out (by kernel_rfl)) (fun _ _ _ h => h) (Or.inr ⟨by rfl, rfl⟩) ?_ ?_
           rotate_left
           ·simp only [Act.put, s1, s2, s3, i64_w, i32_w]
            rfl
           refine pure_ (i := 29) (N := some 52) (v := undef) (a' := ?_) m44_ rfl rfl (any_of HT_.out (by kernel_rfl)) (fun _ _ _ h => h) (Or.inr ⟨by rfl, rfl⟩) ?_ ?_
           rotate_left
           ·simp only [Act.put, s1, s2, s3, i64_w, i32_w]
            rfl
           refine pure_ (i := 30) (N := some 53) (v := undef) (a' := ?_) m31_ rfl rfl (any_of HT_.out (by kernel_rfl)) (fun _ _ _ h => h) (Or.inr ⟨by rfl, rfl⟩) ?_ ?_
           rotate_left
           ·simp only [Act.put, s1, s2, s3, i64_w, i32_w]
            rfl
           refine pure_ (i := 31) (N := some 54) (v := undef) (a' := ?_) m32_ rfl rfl (any_of HT_.out (by kernel_rfl)) (fun _ _ _ h => h) (Or.inr ⟨by rfl, rfl⟩) ?_ ?_
           rotate_left
           ·simp only [Act.put, s1, s2, s3, i64_w, i32_w]
            rfl
           refine pure_ (i := 32) (N := some 55) (v := undef) (a' := ?_) m33_ rfl rfl (any_of HT_.out (by kernel_rfl)) (fun _ _ _ h => h) (Or.inr ⟨by rfl, rfl⟩) ?_ ?_
           rotate_left
           ·simp only [Act.put, s1, s2, s3, i64_w, i32_w]
            rfl
           refine pure_ (i := 33) (N := some 56) (v := ?_) (a' := ?_) m34_ rfl rfl (any_of HT_.out (by kernel_rfl)) (fun _ _ _ h => h) (Or.inl ⟨by rfl, ?_⟩) ?_ ?_
           rotate_left
           ·intro w'
            go_simp
            with_reducible rfl
           rotate_left
           ·simp only [Act.put, s1, s2, s3, i64_w, i32_w]
            rfl
           refine done_ (done_of HT_.out (by kernel_rfl)) ?_
           try go_wp2
           go_roundg k2
           case measure => have := HK1.out; have := HK2.out; omega
           case rel => exact ⟨(x8_2), (wrap64 (x20_2 + 1)), zj', H', ⟨zb3'⟩, ⟨ze'⟩, ⟨za2'⟩, ⟨za'⟩⟩
         ·rw [if_neg c11] at H
          exact absurd H (by simp)
        ·rw [if_neg c9] at H
         exact absurd H (by simp)
       ·rw [if_neg c8] at H
        exact absurd H (by simp)
      ·rw [if_neg c7] at H
       have c7b0 : decide (x20_2 < (l1.length : Int)) = false := decide_eq_false c7; clear c7; have H' := Aside0.mk H; clear H
       go_wp2
       go_roundg k2
       case measure => have := HK1.out; have := HK2.out; omega
       case rel => exact ⟨(x8_2), (wrap64 (x15_1 + 1)), zj', H', ⟨zb3'⟩, ⟨ze'⟩, ⟨za2'⟩, ⟨za'⟩⟩
   ·rw [if_neg c6] at H
    have c6b0 : decide (x15_1 < (l0.length : Int)) = false := decide_eq_false c6; clear c6; obtain rfl := Option.some.inj H
    go_wp2
    go_ret
    exact ⟨_, by first | rfl | (simp [errW_none, errW_some] <;> rfl) | (simp [*, errW_none, errW_some] <;> rfl), by (with_reducible repeat (first | apply Kd.S_alloc | apply Kd.S_drewN | apply Kd.S_drew)); exact Kd.S_mono HO_8.out (fun _ hk => trivial), by repeat (first | (with_reducible first | exact HB.out | apply ba | apply bn | apply below_drew1) | exact HB.out)⟩

end Go.Proofs.Ytjipboafhakjfaa.PFnStable
