/- Text written by a program for this claim: contracts of the functions of one law. -/
import Derived.Test.YtcinecbfkeefaaaPFnBinsx0
import Derived.Test.YtcinecbfkeefaaaPFnBinsx2
import Derived.Test.YtcinecbfkeefaaaPFnBinsx3
import Derived.Test.YtcinecbfkeefaaaPFnBinsx5
import Derived.Test.YtcinecbfkeefaaaPFnBinsx6
import Derived.Test.YtcinecbfkeefaaaPFnBinsx7
namespace Go.Proofs.Ytcinecbfkeefaaa.PFnBins
open Go.RowKit Go.Proofs.YtcinecbfkeefaaaW.PrintWords Go.Proofs.YtcinecbfkeefaaaW.PrintLast Go.Proofs.YtcinecbfkeefaaaW.PrintMore
attribute [local go_sem] max2_int min2_int max_two min_two max_three min_three max_four min_four   -- for this text's walks alone
set_option linter.unusedVariables false
set_option linter.unusedSimpArgs false
open ShortPFnBins0

/-! ### spec_blEdge: function 71 -/
mutual
def spec_blEdge.l0 : Nat → List (S63) → Int → Int → Int → Bool → List (List Int) → Int → Int → Option (Int × Int × Bool)
 | 0, _, _, _, _, _, _, _, _ => none
 | k + 1, x0, x2, x9, x10, x11, x17, x18, x19 => if x19 < x18 then (if 0 ≤ x19 then (if x19 < (x17.length : Int) then ((spec_blSums.f k x0 (rd_L7 x17 x19)).bind fun t235 => (if 0 ≤ x2 then (if x2 < (t235.length : Int) then (if x11 = true then (spec_blEdge.j1 k x0 x2 x9 x10 x11 (rd t235 x2) x17 x18 x19 (decide ((rd t235 x2) < x9))) else (spec_blEdge.j1 k x0 x2 x9 x10 x11 (rd t235 x2) x17 x18 x19 true)) else (none)) else (none))) else (none)) else (none)) else (some (x9, x10, x11))
def spec_blEdge.j1 : Nat → List (S63) → Int → Int → Int → Bool → Int → List (List Int) → Int → Int → Bool → Option (Int × Int × Bool)
 | 0, _, _, _, _, _, _, _, _, _, _ => none
 | k + 1, x0, x2, x9, x10, x11, x14, x17, x18, x19, x35 => if x35 = true then (if x11 = true then (if x14 > x10 then (spec_blEdge.l0 k x0 x2 x14 x14 true x17 x18 (wrap64 (x19 + 1))) else (spec_blEdge.l0 k x0 x2 x14 x10 true x17 x18 (wrap64 (x19 + 1)))) else (spec_blEdge.l0 k x0 x2 x14 x14 true x17 x18 (wrap64 (x19 + 1)))) else (if x11 = true then (if x14 > x10 then (spec_blEdge.l0 k x0 x2 x9 x14 true x17 x18 (wrap64 (x19 + 1))) else (spec_blEdge.l0 k x0 x2 x9 x10 true x17 x18 (wrap64 (x19 + 1)))) else (spec_blEdge.l0 k x0 x2 x9 x14 true x17 x18 (wrap64 (x19 + 1))))
end
def spec_blEdge.f (k : Nat) (l0 : List (S63)) (a1 : Int) (a2 : Int) : Option (Int × Int × Bool) := (spec_blAll.f k l0 a1).bind fun t231 => (spec_blEdge.l0 k l0 a2 0 0 false t231 (t231.length : Int) 0)
set_option maxHeartbeats 8000000 in
set_option maxRecDepth 100000 in
theorem spec_blEdge.calls (k : Nat) (A0 : Option Addr) (c0 : Nat) (l0 : List (S63)) (a1 : Int) (a2 : Int) (r1 : Int) (r2 : Int) (r3 : Bool) (w : World) (hr0 : Kd.C k63 w A0 l0.length l0) (hc0 : l0.length ≤ c0) (h : spec_blEdge.f k l0 a1 a2 = some (r1, r2, r3)) :
  Calls Try.prog 71 #[.slice A0 l0.length c0, .int .i64 a1, .int .i64 a2] w fun e w' => e = .returned (.tuple #[.int .i64 r1, .int .i64 r2, .bool r3]) ∧ Below w.heap.size w w' := by
 have HR0 := Aside0.mk hr0
 have HC0 := Aside0.mk hc0
 clear hr0 hc0
 have HB := am (Below.refl w.heap.size w)
 have H : ((spec_blAll.f k l0 a1).bind fun t231 => (spec_blEdge.l0 k l0 a2 0 0 false t231 (t231.length : Int) 0)) = some (r1, r2, r3) := h
 clear h
 replace H := Option.bind_eq_some_iff.mp H
 obtain ⟨t231, A40, H⟩ := H
 replace H : (spec_blEdge.l0 k l0 a2 0 0 false t231 (t231.length : Int) 0) = some (r1, r2, r3) := H
 have A4 := Aside0.mk A40
 clear A40
 have H' := Aside0.mk H
 clear H
 go_enter Try.func71, Try.ntmps71
 go_wp2_with (first | ((with_reducible refine gate_callee (f := 55) rfl ?_); refine goesL_ (some 17) rfl rfl Try.func55 (by kernel_rfl) rfl #[.slice A0 l0.length c0, .int .i64 a1] rfl zd' ?_; (with_reducible refine (spec_blAll.calls k _ _ l0 a1 t231 _ ?side1 ?side2 A4.out).mono ?_); (case side1 => exact zj'); (case side2 => exact zl2'); rintro e w5 ⟨v232, rfl, ho0, hb⟩; refine ⟨_, rfl, ?_⟩; have n0_ := am (Kd.N_lower (Kd.N_mono (ok' := fun k_ => True) ho0 (fun k_ hk_ => trivial)) (below_size za')); have n1_ := am (below_step za' hb); clear HB; have HO233 := n0_; have HB := n1_; clear n0_ n1_; (try clear hb); (try clear hb2); (try clear hk); (try clear hi); (try clear ho0); obtain ⟨Ao6, co6, eo6⟩ := Kd.N_slice HO233.out; subst eo6))
 go_loopg [9, 10, 11, 19] k (fun kq v9 v10 v11 v19 w' => ∃ (x9_1 : Int) (x10_1 : Int) (x11_1 : Bool) (x19_1 : Int), v9 = .int .i64 x9_1 ∧ v10 = .int .i64 x10_1 ∧ v11 = .bool x11_1 ∧ v19 = .int .i64 x19_1 ∧ Aside0 (spec_blEdge.l0 kq l0 a2 x9_1 x10_1 x11_1 t231 (t231.length : Int) x19_1 = some (r1, r2, r3)) ∧ Aside0 (kq ≤ k) ∧ Aside0 (Kd.N (Kd.slice 3 (Kd.int .i64)) 29 w' w.heap.size (fun _ => True) (.slice Ao6 t231.length co6) t231) ∧ Aside0 (Below w.heap.size w w'))
 case atStart => exact ⟨(0), (0), (false), (0), zh', zh', zh', zh', H', ⟨Nat.le_refl _⟩, ⟨by (with_reducible repeat (first | apply Kd.N_alloc | apply Kd.N_drewN | apply Kd.N_drew)); exact HO233.out⟩, ⟨za'⟩⟩
 case round =>
  clear H'
  try clear p2
  try clear c5
  obtain ⟨x9_1, x10_1, x11_1, x19_1, rfl, rfl, rfl, rfl, HA, HK1, HO_17, HB⟩ := hrel
  cases gk with
  | zero => exact absurd HA.out (by simp [spec_blEdge.l0])
  | succ k1 =>
   have H := HA.out; clear HA; simp only [spec_blEdge.l0] at H
   by_cases c7 : x19_1 < (t231.length : Int)
   ·rw [if_pos c7] at H
    have c7b0 : decide (x19_1 < (t231.length : Int)) = true := decide_eq_true c7; clear c7
    by_cases c8 : 0 ≤ x19_1
    ·rw [if_pos c8] at H
     have c8b0 : decide (0 ≤ x19_1) = true := decide_eq_true c8; clear c8
     by_cases c9 : x19_1 < (t231.length : Int)
     ·rw [if_pos c9] at H
      have c9b0 : decide (x19_1 < (t231.length : Int)) = true := decide_eq_true c9; clear c9; replace H := Option.bind_eq_some_iff.mp H; obtain ⟨t235, A100, H⟩ := H; replace H : (if 0 ≤ a2 then (if a2 < (t235.length : Int) then (if x11_1 = true then (spec_blEdge.j1 k1 l0 a2 x9_1 x10_1 x11_1 (rd t235 a2) t231 (t231.length : Int) x19_1 (decide ((rd t235 a2) < x9_1))) else (spec_blEdge.j1 k1 l0 a2 x9_1 x10_1 x11_1 (rd t235 a2) t231 (t231.length : Int) x19_1 true)) else (none)) else (none)) = some (r1, r2, r3) := H; have A10 := Aside0.mk A100; clear A100
      by_cases c11 : 0 ≤ a2
      ·rw [if_pos c11] at H
       have c11b0 : decide (0 ≤ a2) = true := decide_eq_true c11; clear c11
       by_cases c12 : a2 < (t235.length : Int)
       ·rw [if_pos c12] at H
        have c12b0 : decide (a2 < (t235.length : Int)) = true := decide_eq_true c12; clear c12; have HC13 := Aside0.mk H; clear H; have p234 : 0 ≤ (x19_1 : Int) := odt; have q234 : x19_1 < (t231.length : Int) := odt; obtain ⟨ad234, A234_0, c234_0, e234, hx234_0, hl234_0, hi234_0⟩ := at_L7 (Kd.N_reads' HO_17.out).2.2 x19_1 p234 q234; cases e234; obtain ⟨ce234, hce234, hMe234, hcc234⟩ := Kd.N_get HO_17.out [] x19_1 p234 (by first | exact q234 | exact odt | (have e_ := (Kd.N_reads' HO_17.out).1; omega)); obtain ⟨ua234_0, uc234_0, rfl, ul234_0, ge234_0⟩ := Kd.FK_slice_open hMe234; have hv234_0 := hcc234 0 _ rfl; rw [Nat.add_zero, show ((Kd.slice 3 (Kd.int .i64))).sz = 1 from rfl, Nat.mul_one] at hv234_0; replace hv234_0 := Option.some.inj (hv234_0.symm.trans hx234_0)
        injection hv234_0 with hva_ hvn_ hvc_
        rw [hva_] at ge234_0; rw [hvc_] at ul234_0; have HL234_0 := am (show Kd.V (Kd.int .i64) 3 _ w.heap.size _ _ (rd_L7 t231 x19_1) from Kd.V_mk ul234_0 ge234_0); clear hva_ hvn_ hvc_ ge234_0 ul234_0; clear hcc234 hce234; have HR234_0 := Aside0.mk hi234_0; have HC234_0 := Aside0.mk hl234_0; clear hi234_0 hl234_0; replace p234 := eq_true p234; replace q234 := eq_true q234
        go_upto_region 6 with (first | ((with_reducible refine gate_callee (f := 57) rfl ?_); refine goesL_ (some 25) rfl rfl Try.func57 (by kernel_rfl) rfl #[.slice A0 l0.length c0, .slice A234_0 (rd_L7 t231 x19_1).length c234_0] rfl zd' ?_; (with_reducible refine (spec_blSums.calls k1 _ _ l0 _ _ (rd_L7 t231 x19_1) t235 _ ?side1 ?side2 ?side3 ?side4 A10.out).mono ?_); (case side1 => exact zn'); (case side2 => exact zl2'); (case side3 => repeat (first | exact zu1' | (with_reducible refine Kd.C_alloc ?_ _) | (with_reducible refine Kd.C_drewN ?_ _) | (with_reducible refine Kd.C_drew ?_))); (case side4 => exact HC234_0.out); rintro e w14 ⟨v236, rfl, ho0, hb⟩; refine ⟨_, rfl, ?_⟩; have n0_ := am (Kd.N_elder' zp1' (Kd.R_base ho0) hb); have n1_ := am (Kd.V_elder' (by (with_reducible repeat (first | apply Kd.V_alloc | apply Kd.V_drewN | apply Kd.V_drew)); exact HL234_0.out) (Kd.R_base ho0) hb); have n2_ := am (Kd.R_lower ho0 (below_size za')); have n3_ := am (Kd.C_below zu1' hb); have n4_ := am (below_step za' hb); clear HO_17; clear HL234_0; clear HR234_0; clear HB; have HO_17 := n0_; have HL234_0 := n1_; have HO237 := n2_; have HR234_0 := n3_; have HB := n4_; clear n0_ n1_ n2_ n3_ n4_; (try clear hb); (try clear hb2); (try clear hk); (try clear hi); (try clear ho0); obtain ⟨Ao15, co15, eo15⟩ := Kd.R_slice HO237.out; subst eo15; have p238 : 0 ≤ (a2 : Int) := odt; have q238 : a2 < (t235.length : Int) := odt; obtain ⟨ad238, e238, hx238_0⟩ := Kd.at_int (Kd.R_reads' HO237.out).2.2 a2 p238 q238; cases e238; replace p238 := eq_true p238; replace q238 := eq_true q238))
        (try simp only [Act.put, s1, s2, s3])
        go_cut [35] (fun v35 wc => ∃ (kq : Nat) (x35_12 : Bool), v35 = .bool x35_12 ∧ Aside0 (spec_blEdge.j1 kq l0 a2 x9_1 x10_1 x11_1 (rd t235 a2) t231 (t231.length : Int) x19_1 x35_12 = some (r1, r2, r3)) ∧ Aside0 (kq ≤ k1) ∧ Aside0 (Kd.N (Kd.slice 3 (Kd.int .i64)) 29 wc w.heap.size (fun _ => True) (.slice (some ad234) t231.length co6) t231) ∧ Aside0 (Kd.C (Kd.int .i64) wc A234_0 (rd_L7 t231 x19_1).length (rd_L7 t231 x19_1)) ∧ Aside0 (Below w.heap.size w wc))
        case first =>
         have H := HC13.out; clear HC13
         by_cases c16 : x11_1 = true
         ·subst c16
          have H1 : (spec_blEdge.j1 k1 l0 a2 x9_1 x10_1 true (rd t235 a2) t231 (t231.length : Int) x19_1 (decide ((rd t235 a2) < x9_1))) = some (r1, r2, r3) := by rw [if_pos rfl] at H; exact H
          clear H; have H := H1; clear H1; have H' := Aside0.mk H; clear H
          go_wp2
          go_meet
          case rel => exact ⟨_, (decide ((rd t235 a2) < x9_1)), zh', H', ⟨by have := HK1.out; first | omega | exact Nat.le_refl _⟩, ⟨zj3'⟩, ⟨zu1'⟩, ⟨za'⟩⟩
         ·replace c16 := Bool.eq_false_iff.mpr c16
          subst c16
          have H1 : (spec_blEdge.j1 k1 l0 a2 x9_1 x10_1 false (rd t235 a2) t231 (t231.length : Int) x19_1 true) = some (r1, r2, r3) := by rw [if_neg (show ¬ (false = true) by decide)] at H; exact H
          clear H; have H := H1; clear H1; have H' := Aside0.mk H; clear H
          go_wp2
          go_meet
          case rel => exact ⟨_, (true), zh', H', ⟨by have := HK1.out; first | omega | exact Nat.le_refl _⟩, ⟨zj3'⟩, ⟨zu1'⟩, ⟨za'⟩⟩
        case rest =>
         clear HC13; (try clear c1); (try clear c2); (try clear p2); (try clear q2); (try clear hx2); (try clear c5); (try clear c7); (try clear c7b0); (try clear c8); (try clear c8b0); (try clear c9); (try clear c9b0); (try clear c11); (try clear c11b0); (try clear c12); (try clear c12b0); (try clear c16); (try clear hx234_0); (try clear hx238_0); (try clear p2); (try clear p234); (try clear p238); (try clear q234); (try clear q238); obtain ⟨kq, x35_12, rfl, HA, HJ12, HO_17, HR234_0, HB⟩ := hcut
         cases kq with
         | zero => exact absurd HA.out (by simp [spec_blEdge.j1])
         | succ kj12 =>
          have H := HA.out; clear HA; simp only [spec_blEdge.j1] at H
          by_cases c17 : x35_12 = true
          ·subst c17
           have H1 : (if x11_1 = true then (if (rd t235 a2) > x10_1 then (spec_blEdge.l0 kj12 l0 a2 (rd t235 a2) (rd t235 a2) true t231 (t231.length : Int) (wrap64 (x19_1 + 1))) else (spec_blEdge.l0 kj12 l0 a2 (rd t235 a2) x10_1 true t231 (t231.length : Int) (wrap64 (x19_1 + 1)))) else (spec_blEdge.l0 kj12 l0 a2 (rd t235 a2) (rd t235 a2) true t231 (t231.length : Int) (wrap64 (x19_1 + 1)))) = some (r1, r2, r3) := by rw [if_pos rfl] at H; exact H
           clear H; have H := H1; clear H1
           by_cases c18 : x11_1 = true
           ·subst c18
            have H1 : (if (rd t235 a2) > x10_1 then (spec_blEdge.l0 kj12 l0 a2 (rd t235 a2) (rd t235 a2) true t231 (t231.length : Int) (wrap64 (x19_1 + 1))) else (spec_blEdge.l0 kj12 l0 a2 (rd t235 a2) x10_1 true t231 (t231.length : Int) (wrap64 (x19_1 + 1)))) = some (r1, r2, r3) := by rw [if_pos rfl] at H; exact H
            clear H; have H := H1; clear H1
            by_cases c19 : (rd t235 a2) > x10_1
            ·rw [if_pos c19] at H
             have c19b0 : decide (x10_1 < (rd t235 a2)) = true := decide_eq_true c19; clear c19; have H' := Aside0.mk H; clear H
             go_wp2
             go_roundg kj12
             case measure => have := HK1.out; have := HJ12.out; omega
             case rel => exact ⟨((rd t235 a2)), ((rd t235 a2)), (true), (wrap64 (x19_1 + 1)), zh', zh', zh', zh', H', ⟨za3'⟩, ⟨zp1'⟩, ⟨za'⟩⟩
            ·rw [if_neg c19] at H
             have c19b0 : decide (x10_1 < (rd t235 a2)) = false := decide_eq_false c19; clear c19; have H' := Aside0.mk H; clear H
             go_wp2
             go_roundg kj12
             case measure => have := HK1.out; have := HJ12.out; omega
             case rel => exact ⟨((rd t235 a2)), (x10_1), (true), (wrap64 (x19_1 + 1)), zh', zh', zh', zh', H', ⟨za3'⟩, ⟨zp1'⟩, ⟨za'⟩⟩
           ·replace c18 := Bool.eq_false_iff.mpr c18
            subst c18
            have H1 : (spec_blEdge.l0 kj12 l0 a2 (rd t235 a2) (rd t235 a2) true t231 (t231.length : Int) (wrap64 (x19_1 + 1))) = some (r1, r2, r3) := by rw [if_neg (show ¬ (false = true) by decide)] at H; exact H
            clear H; have H := H1; clear H1; have H' := Aside0.mk H; clear H
            go_wp2
            go_roundg kj12
            case measure => have := HK1.out; have := HJ12.out; omega
            case rel => exact ⟨((rd t235 a2)), ((rd t235 a2)), (true), (wrap64 (x19_1 + 1)), zh', zh', zh', zh', H', ⟨za3'⟩, ⟨zp1'⟩, ⟨za'⟩⟩
          ·replace c17 := Bool.eq_false_iff.mpr c17
           subst c17
           have H1 : (if x11_1 = true then (if (rd t235 a2) > x10_1 then (spec_blEdge.l0 kj12 l0 a2 x9_1 (rd t235 a2) true t231 (t231.length : Int) (wrap64 (x19_1 + 1))) else (spec_blEdge.l0 kj12 l0 a2 x9_1 x10_1 true t231 (t231.length : Int) (wrap64 (x19_1 + 1)))) else (spec_blEdge.l0 kj12 l0 a2 x9_1 (rd t235 a2) true t231 (t231.length : Int) (wrap64 (x19_1 + 1)))) = some (r1, r2, r3) := by rw [if_neg (show ¬ (false = true) by decide)] at H; exact H
           clear H; have H := H1; clear H1
           by_cases c20 : x11_1 = true
           ·subst c20
            have H1 : (if (rd t235 a2) > x10_1 then (spec_blEdge.l0 kj12 l0 a2 x9_1 (rd t235 a2) true t231 (t231.length : Int) (wrap64 (x19_1 + 1))) else (spec_blEdge.l0 kj12 l0 a2 x9_1 x10_1 true t231 (t231.length : Int) (wrap64 (x19_1 + 1)))) = some (r1, r2, r3) := by rw [if_pos rfl] at H; exact H
            clear H; have H := H1; clear H1
            by_cases c21 : (rd t235 a2) > x10_1
            ·rw [if_pos c21] at H
             have c21b0 : decide (x10_1 < (rd t235 a2)) = true := decide_eq_true c21; clear c21; have H' := Aside0.mk H; clear H
             go_wp2
             go_roundg kj12
             case measure => have := HK1.out; have := HJ12.out; omega
             case rel => exact ⟨(x9_1), ((rd t235 a2)), (true), (wrap64 (x19_1 + 1)), zh', zh', zh', zh', H', ⟨za3'⟩, ⟨zp1'⟩, ⟨za'⟩⟩
            ·rw [if_neg c21] at H
             have c21b0 : decide (x10_1 < (rd t235 a2)) = false := decide_eq_false c21; clear c21; have H' := Aside0.mk H; clear H
             go_wp2
             go_roundg kj12
             case measure => have := HK1.out; have := HJ12.out; omega
             case rel => exact ⟨(x9_1), (x10_1), (true), (wrap64 (x19_1 + 1)), zh', zh', zh', zh', H', ⟨za3'⟩, ⟨zp1'⟩, ⟨za'⟩⟩
           ·replace c20 := Bool.eq_false_iff.mpr c20
            subst c20
            have H1 : (spec_blEdge.l0 kj12 l0 a2 x9_1 (rd t235 a2) true t231 (t231.length : Int) (wrap64 (x19_1 + 1))) = some (r1, r2, r3) := by rw [if_neg (show ¬ (false = true) by decide)] at H; exact H
            clear H; have H := H1; clear H1; have H' := Aside0.mk H; clear H
            go_wp2
            go_roundg kj12
            case measure => have := HK1.out; have := HJ12.out; omega
            case rel => exact ⟨(x9_1), ((rd t235 a2)), (true), (wrap64 (x19_1 + 1)), zh', zh', zh', zh', H', ⟨za3'⟩, ⟨zp1'⟩, ⟨za'⟩⟩
       ·rw [if_neg c12] at H
        exact absurd H (by simp)
      ·rw [if_neg c11] at H
       exact absurd H (by simp)
     ·rw [if_neg c9] at H
      exact absurd H (by simp)
    ·rw [if_neg c8] at H
     exact absurd H (by simp)
   ·rw [if_neg c7] at H
    have c7b0 : decide (x19_1 < (t231.length : Int)) = false := decide_eq_false c7; clear c7; simp only [Option.some.injEq, Prod.mk.injEq] at H; obtain ⟨rfl, rfl, rfl⟩ := H
    go_wp2
    go_ret3
    exact ⟨by first | rfl | (simp [errW_none, errW_some] <;> rfl) | (simp [*, errW_none, errW_some] <;> rfl), by repeat (first | (with_reducible first | exact HB.out | apply ba | apply bn | apply below_drew1) | exact HB.out)⟩

/-! ### spec_GradeRange: function 36 -/
def spec_GradeRange.f (k : Nat) (l0 : List (S63)) (a1 : Int) : Option (Int × Int × Bool) := (spec_blBins.f k l0).bind fun t239 => (if t239 = true then ((spec_l1In.f a1 0 12).bind fun t240 => (if t240 = true then ((spec_blEdge.f k l0 a1 1).bind fun bt241 => (some (bt241.1, bt241.2.1, bt241.2.2))) else (some (0, 0, false)))) else (some (0, 0, false)))
set_option maxHeartbeats 8000000 in
set_option maxRecDepth 100000 in
theorem spec_GradeRange.calls (k : Nat) (A0 : Option Addr) (c0 : Nat) (l0 : List (S63)) (a1 : Int) (r1 : Int) (r2 : Int) (r3 : Bool) (w : World) (hr0 : Kd.C k63 w A0 l0.length l0) (hc0 : l0.length ≤ c0) (h : spec_GradeRange.f k l0 a1 = some (r1, r2, r3)) :
  Calls Try.prog 36 #[.slice A0 l0.length c0, .int .i64 a1] w fun e w' => e = .returned (.tuple #[.int .i64 r1, .int .i64 r2, .bool r3]) ∧ Below w.heap.size w w' := by
 have HR0 := Aside0.mk hr0
 have HC0 := Aside0.mk hc0
 clear hr0 hc0
 have HB := am (Below.refl w.heap.size w)
 have H : ((spec_blBins.f k l0).bind fun t239 => (if t239 = true then ((spec_l1In.f a1 0 12).bind fun t240 => (if t240 = true then ((spec_blEdge.f k l0 a1 1).bind fun bt241 => (some (bt241.1, bt241.2.1, bt241.2.2))) else (some (0, 0, false)))) else (some (0, 0, false)))) = some (r1, r2, r3) := h
 clear h
 replace H := Option.bind_eq_some_iff.mp H
 obtain ⟨t239, A30, H⟩ := H
 replace H : (if t239 = true then ((spec_l1In.f a1 0 12).bind fun t240 => (if t240 = true then ((spec_blEdge.f k l0 a1 1).bind fun bt241 => (some (bt241.1, bt241.2.1, bt241.2.2))) else (some (0, 0, false)))) else (some (0, 0, false))) = some (r1, r2, r3) := H
 have A3 := Aside0.mk A30
 clear A30
 by_cases c4 : t239 = true
 ·subst c4
  have H1 : ((spec_l1In.f a1 0 12).bind fun t240 => (if t240 = true then ((spec_blEdge.f k l0 a1 1).bind fun bt241 => (some (bt241.1, bt241.2.1, bt241.2.2))) else (some (0, 0, false)))) = some (r1, r2, r3) := by rw [if_pos rfl] at H; exact H
  clear H
  have H := H1
  clear H1
  replace H := Option.bind_eq_some_iff.mp H
  obtain ⟨t240, A50, H⟩ := H
  replace H : (if t240 = true then ((spec_blEdge.f k l0 a1 1).bind fun bt241 => (some (bt241.1, bt241.2.1, bt241.2.2))) else (some (0, 0, false))) = some (r1, r2, r3) := H
  have A5 := Aside0.mk A50
  clear A50
  by_cases c6 : t240 = true
  ·subst c6
   have H1 : ((spec_blEdge.f k l0 a1 1).bind fun bt241 => (some (bt241.1, bt241.2.1, bt241.2.2))) = some (r1, r2, r3) := by rw [if_pos rfl] at H; exact H
   clear H; have H := H1; clear H1; replace H := Option.bind_eq_some_iff.mp H; obtain ⟨⟨t241, t242, t243⟩, A70, H⟩ := H; replace H : (some (t241, t242, t243)) = some (r1, r2, r3) := H; have A7 := Aside0.mk A70; clear A70; simp only [Option.some.injEq, Prod.mk.injEq] at H; obtain ⟨rfl, rfl, rfl⟩ := H
   go_enter Try.func36, Try.ntmps36
   go_wp2_with (first | ((with_reducible refine gate_callee (f := 69) rfl ?_); refine goesL_ (some 8) rfl rfl Try.func69 (by kernel_rfl) rfl #[.slice A0 l0.length c0] rfl zd' ?_; (with_reducible refine (spec_blBins.calls k _ _ l0 true _ ?side1 ?side2 A3.out).mono ?_); (case side1 => exact zj'); (case side2 => exact zl2'); rintro e w8 ⟨rfl, hb⟩; refine ⟨_, rfl, ?_⟩; have n0_ := am (below_step za' hb); clear HB; have HB := n0_; clear n0_; (try clear hb); (try clear hb2); (try clear hk); (try clear hi)) | (go_at_call 70; (with_reducible refine (spec_l1In.calls a1 0 12 true _ A5.out).mono ?_); rintro e w' ⟨rfl, ⟨nd, rfl⟩⟩) | ((with_reducible refine gate_callee (f := 71) rfl ?_); refine goesL_ (some 17) rfl rfl Try.func71 (by kernel_rfl) rfl #[.slice A0 l0.length c0, .int .i64 a1, .int .i64 1] rfl zd' ?_; (with_reducible refine (spec_blEdge.calls k _ _ l0 a1 1 t241 t242 t243 _ ?side1 ?side2 A7.out).mono ?_); (case side1 => exact zc3'); (case side2 => exact zl2'); rintro e w9 ⟨rfl, hb⟩; refine ⟨_, rfl, ?_⟩; have n0_ := am (below_step za' hb); clear HB; have HB := n0_; clear n0_; (try clear hb); (try clear hb2); (try clear hk); (try clear hi)))
   go_ret3
   exact ⟨by first | rfl | (simp [errW_none, errW_some] <;> rfl) | (simp [*, errW_none, errW_some] <;> rfl), by repeat (first | (with_reducible first | exact HB.out | apply ba | apply bn | apply below_drew1) | exact HB.out)⟩
  ·replace c6 := Bool.eq_false_iff.mpr c6
   subst c6
   have H1 : (some (0, 0, false)) = some (r1, r2, r3) := by rw [if_neg (show ¬ (false = true) by decide)] at H; exact H
   clear H; have H := H1; clear H1; simp only [Option.some.injEq, Prod.mk.injEq] at H; obtain ⟨rfl, rfl, rfl⟩ := H
   go_enter Try.func36, Try.ntmps36
   go_wp2_with (first | ((with_reducible refine gate_callee (f := 69) rfl ?_); refine goesL_ (some 8) rfl rfl Try.func69 (by kernel_rfl) rfl #[.slice A0 l0.length c0] rfl zd' ?_; (with_reducible refine (spec_blBins.calls k _ _ l0 true _ ?side1 ?side2 A3.out).mono ?_); (case side1 => exact zj'); (case side2 => exact zl2'); rintro e w10 ⟨rfl, hb⟩; refine ⟨_, rfl, ?_⟩; have n0_ := am (below_step za' hb); clear HB; have HB := n0_; clear n0_; (try clear hb); (try clear hb2); (try clear hk); (try clear hi)) | (go_at_call 70; (with_reducible refine (spec_l1In.calls a1 0 12 false _ A5.out).mono ?_); rintro e w' ⟨rfl, ⟨nd, rfl⟩⟩))
   go_ret3
   exact ⟨by first | rfl | (simp [errW_none, errW_some] <;> rfl) | (simp [*, errW_none, errW_some] <;> rfl), by repeat (first | (with_reducible first | exact HB.out | apply ba | apply bn | apply below_drew1) | exact HB.out)⟩
 ·replace c4 := Bool.eq_false_iff.mpr c4
  subst c4
  have H1 : (some (0, 0, false)) = some (r1, r2, r3) := by rw [if_neg (show ¬ (false = true) by decide)] at H; exact H
  clear H
  have H := H1
  clear H1
  simp only [Option.some.injEq, Prod.mk.injEq] at H
  obtain ⟨rfl, rfl, rfl⟩ := H
  go_enter Try.func36, Try.ntmps36
  go_wp2_with (first | ((with_reducible refine gate_callee (f := 69) rfl ?_); refine goesL_ (some 8) rfl rfl Try.func69 (by kernel_rfl) rfl #[.slice A0 l0.length c0] rfl zd' ?_; (with_reducible refine (spec_blBins.calls k _ _ l0 false _ ?side1 ?side2 A3.out).mono ?_); (case side1 => exact zj'); (case side2 => exact zl2'); rintro e w11 ⟨rfl, hb⟩; refine ⟨_, rfl, ?_⟩; have n0_ := am (below_step za' hb); clear HB; have HB := n0_; clear n0_; (try clear hb); (try clear hb2); (try clear hk); (try clear hi)))
  go_ret3
  exact ⟨by first | rfl | (simp [errW_none, errW_some] <;> rfl) | (simp [*, errW_none, errW_some] <;> rfl), by repeat (first | (with_reducible first | exact HB.out | apply ba | apply bn | apply below_drew1) | exact HB.out)⟩

/-! ### impl_LeastImpurity: function 37 -/
section
variable {σ : Type} (step : σ → List Int → Option σ) (Inv : σ → World → Prop) (okc : Nat → Prop) (b0 : Nat) (w0 : World) (B n q0 q1 : Nat)
/-- What is asked of the function that is called. -/
def CallOkI : Prop := ∀ (s s' : σ) (m : List Int) (A : Option Addr) (c : Nat) (W : World), step s m = some s' → m.length = n → (Kd.int .i64).C W A m.length m → m.length ≤ c → Inv s W → Below b0 w0 W → B + 5 ≤ W.heap.size →
 Calls Try.prog 72 #[.slice A n c, .pointer (some ⟨q0, 0, none⟩), .pointer (some ⟨q1, 0, none⟩)] W fun e W' => e = .returned (.tuple #[]) ∧ Inv s' W' ∧ Kept W W' okc ∧ Below b0 w0 W'
/-- What stands at each moment of the filling. -/
structure FillStI (A0 : Option Addr) (c0 : Nat) (W : World) (M : List Int) (s : σ) : Prop where
 E : FillEnv B n A0 c0 (.func (.func 72) #[] #[.pointer (some ⟨q0, 0, none⟩), .pointer (some ⟨q1, 0, none⟩)]) W M
 I : Inv s W
 bel : Below b0 w0 W
variable {step Inv okc b0 w0 B n q0 q1}
theorem FillStI.size {A0 : Option Addr} {c0 : Nat} {W : World} {M} {s : σ} (h : FillStI Inv b0 w0 B n q0 q1 A0 c0 W M s) : B + 5 ≤ W.heap.size := by have := blk_lt h.E.hf; omega
theorem FillStI.setM {A0 : Option Addr} {c0 : Nat} {W : World} {M} {s : σ} (h : FillStI Inv b0 w0 B n q0 q1 A0 c0 W M s) (hI : ∀ s W W', Inv s W → Kept W W' (fun k => k = B + 2) → Inv s W') (hb : b0 ≤ B) (i : Nat) (x : Int) :
  FillStI Inv b0 w0 B n q0 q1 A0 c0 (W.setCell ⟨B + 2, i, none⟩ (.int .i64 x)) (M.set i x) s where
 E := h.E.setM i x
 I := hI _ _ _ h.I ((Kept.refl W (fun k => k = B + 2)).setCell (.inl rfl) _)
 bel := h.bel.setCell (by simp; omega) _
def FillPostI (Inv : σ → World → Prop) (b0 : Nat) (w0 : World) (B n q0 q1 : Nat) (A0 : Option Addr) (c0 : Nat) (okc : Nat → Prop) (W : World) (M' : List Int) (s' : σ) (W' : World) : Prop := FillStI Inv b0 w0 B n q0 q1 A0 c0 W' M' s' ∧ Kept W W' (fun k => k = B + 2 ∨ okc k)
set_option maxHeartbeats 8000000 in
set_option maxRecDepth 100000 in
theorem fill_callsI {A0 : Option Addr} {c0 : Nat} (l : List S63) (hln : l.length = n) (hr : Kd.C k63 w0 A0 l.length l) (hbw : b0 = w0.heap.size) (hn : n ≤ 1048576) (hb : b0 ≤ B) (hI : ∀ s W W', Inv s W → Kept W W' (fun k => k = B + 2) → Inv s W') (hokc : ∀ k, okc k → k < B) (HCB : CallOkI step Inv okc b0 w0 B n q0 q1) : ∀ (d i : Nat), i + d = n → ∀ (left : Int), 0 ≤ left → left ≤ 1000 → ∀ (M : List Int) (s : σ) (M' : List Int) (s' : σ) (W : World), partF l step d left M s = some (M', s') → FillStI Inv b0 w0 B n q0 q1 A0 c0 W M s →
  Calls Try.prog 80 #[.int .i64 (i : Int), .int .i64 left, .pointer (some ⟨B, 0, none⟩), .pointer (some ⟨B + 1, 0, none⟩), .pointer (some ⟨B + 3, 0, none⟩), .pointer (some ⟨B + 4, 0, none⟩)] W fun e W' => e = .returned (.tuple #[]) ∧ FillPostI Inv b0 w0 B n q0 q1 A0 c0 okc W M' s' W' := by
 subst hbw
 have HH := Aside0.mk hI
 have HK := Aside0.mk hokc
 have HC := Aside0.mk HCB
 have HR := Aside0.mk hr
 have HL := Aside0.mk hln
 clear hI hokc HCB hr hln
 intro d
 induction d with
 | zero =>
  intro i hi left hl0 hl1 M s M' s' W h S
  obtain rfl : i = n := by omega
  have HS := Aside0.mk S
  obtain ⟨hc1, hc2, hc3, hc4⟩ := S.E.cells
  simp only [partF] at h
  by_cases hz : left = 0
  ·rw [if_pos hz] at h
   obtain ⟨s1, h1, h2⟩ := Option.bind_eq_some_iff.1 h; simp only [Option.some.injEq, Prod.mk.injEq] at h2; obtain ⟨rfl, rfl⟩ := h2; have H1 := Aside0.mk h1; subst hz; clear h h1 hc4 S hl0 hl1
   go_enter Try.func80, Try.ntmps80
   go_wp2_with fail
   refine (HC.out _ _ _ _ _ _ H1.out HS.out.E.lM (HS.out.E.reads (by omega)) (by rw [HS.out.E.lM]; exact Nat.le_refl _) HS.out.I HS.out.bel HS.out.size).mono ?_
   rintro e W1 ⟨rfl, h3, h4, h5⟩
   have HP : Aside0 (FillPostI Inv w0.heap.size w0 B i q0 q1 A0 c0 okc W M s1 W1) := ⟨⟨HS.out.E.kept h4 HK.out, h3, h5⟩, h4.mono (fun k hk => .inr hk)⟩; clear h3 h4 h5
   go_wp2
   refine bodyPost_ret (results_none rfl _ _ _) rfl ?_
   exact ⟨rfl, HP.out⟩
  ·rw [if_neg hz] at h
   simp only [Option.some.injEq, Prod.mk.injEq] at h; obtain ⟨rfl, rfl⟩ := h; have hzb : (left == 0) = false := beq_eq_false_iff_ne.2 hz; clear hz hc2 hc3 hc4 S hl0 hl1
   go_enter Try.func80, Try.ntmps80
   go_wp2
   refine bodyPost_ret (results_none rfl _ _ _) rfl ?_
   exact ⟨rfl, HS.out, Kept.refl _ _⟩
 | succ d ih =>
  intro i hi left hl0 hl1 M s M' s' W h S
  have HS := Aside0.mk S
  have hne : ((i : Int) == (n : Int)) = false := by rw [beq_eq_false_iff_ne]; omega
  have hln := HL.out
  have hi0 : l.length - (d + 1) = i := by omega
  simp only [partF] at h
  rw [hi0] at h
  obtain ⟨⟨M9, s9⟩, h1, h2⟩ := Option.bind_eq_some_iff.1 h
  simp only [Option.some.injEq, Prod.mk.injEq] at h2
  obtain ⟨rfl, rfl⟩ := h2
  have hlt : i < n := by omega
  obtain ⟨ad0, e0, hy0, hy1, hy2, hy3⟩ := at_T63 HR.out (i : Int) (by omega) (by omega)
  subst e0
  rw [Int.toNat_natCast] at hy0
  obtain ⟨u, hu⟩ : ∃ u, u = (rd_T63 l (i : Int)).f0 := ⟨_, rfl⟩
  rw [← hu] at h1 hy0
  obtain ⟨T, hT⟩ : ∃ T, T = (mn left u + 1).toNat := ⟨_, rfl⟩
  rw [← hT] at h1
  have HY := Aside0.mk hy0
  have HT := Aside0.mk hT
  have H' := Aside0.mk h1
  have IH := Aside0.mk ih
  have HI := Aside0.mk hi
  have H0 := Aside0.mk hl0
  have HT2 : Aside0 (mn left u ≤ left) := ⟨by unfold mn; split <;> omega⟩
  obtain ⟨hc1, hc2, hc3, hc4⟩ := S.E.cells
  clear h h1 S hi0 hc2 hc3 hc4 ih hi hy0 hy1 hy2 hy3 hu hT hln
  go_enter Try.func80, Try.ntmps80
  go_wp2
  go_loopg [8] T (fun kq v8 w' => ∃ (m : Nat) (M1 : List Int) (s1 : σ), v8 = .int .i64 (m : Int) ∧ Aside0 (m + kq = T) ∧ Aside0 (partK (partF l step d) i left kq m M1 s1 = some (M9, s9)) ∧ Aside0 (FillPostI Inv w0.heap.size w0 B n q0 q1 (some ad0) c0 okc W M1 s1 w'))
  case atStart => exact ⟨0, M, s, rfl, ⟨Nat.zero_add _⟩, H', ⟨HS.out, Kept.refl _ _⟩⟩
  case round =>
   clear H' HS hc1; obtain ⟨m, M1, s1, rfl, HN, HA, HP⟩ := hrel; obtain ⟨hc1, hc2, hc3, hc4⟩ := HP.out.1.E.cells; have hy : wr.cell? (ad0.add (i * 4)) = some (.int .i64 u) := (HP.out.1.bel.cell (World.block_lt_of_cell? w0 _ HY.out)).trans HY.out; obtain ⟨hcm, hfm⟩ := HP.out.1.E.atM i hlt; have HUL : Aside0 ((u < left ∧ mn left u = u) ∨ (left ≤ u ∧ mn left u = left)) := ⟨by unfold mn; split <;> omega⟩
   cases gk with
   | zero =>
    have H := HA.out; simp only [partK, Option.some.injEq, Prod.mk.injEq] at H; obtain ⟨rfl, rfl⟩ := H; clear HA; have HZ : Aside0 (FillPostI Inv w0.heap.size w0 B n q0 q1 (some ad0) c0 okc W (M1.set i 0) s1 (wr.setCell ⟨B + 2, i, none⟩ (.int .i64 0))) := ⟨HP.out.1.setM HH.out hb i 0, HP.out.2.setCell (.inl (.inl rfl)) _⟩
    rcases HUL.out with ⟨h5, h6⟩ | ⟨h5, h6⟩
    ·have hb1 : decide ((m : Int) ≤ u) = false := decide_eq_false (by have := HN.out; have := HT.out; omega)
     clear h6
     go_wp2
     refine bodyPost_end (results_none rfl _ _ _) rfl ?_
     exact ⟨rfl, HZ.out⟩
    ·have hb1 : decide ((m : Int) ≤ left) = false := decide_eq_false (by have := HN.out; have := HT.out; omega)
     clear h6
     go_wp2
     refine bodyPost_end (results_none rfl _ _ _) rfl ?_
     exact ⟨rfl, HZ.out⟩
   | succ k1 =>
    have hm1 : (m : Int) ≤ mn left u := by have := HN.out; have := HT.out; omega
    have hml : (m : Int) ≤ left := by have := HT2.out; omega
    have H := HA.out; clear HA; simp only [partK] at H; obtain ⟨⟨M2, s2⟩, h1, h2⟩ := Option.bind_eq_some_iff.1 H; have H1 := Aside0.mk h1; have H' := Aside0.mk h2; have S2 := am (HP.out.1.setM HH.out hb i (m : Int)); have HK2 : Aside0 (Kept W (wr.setCell ⟨B + 2, i, none⟩ (.int .i64 (m : Int))) (fun k => k = B + 2 ∨ okc k)) := ⟨HP.out.2.setCell (.inl (.inl rfl)) _⟩; clear H h1 h2
    rcases HUL.out with ⟨h5, h6⟩ | ⟨h5, h6⟩
    ·have hb1 : decide ((m : Int) ≤ u) = true := decide_eq_true (by omega)
     clear h6 hm1
     have q1 : ((i : Int) + 1) = ((i + 1 : Nat) : Int) := by omega
     have Q1 := Aside0.mk q1; clear q1
     go_wp2_with (go_at_call 80; rw [Q1.out]; refine (IH.out (i + 1) (by have := HI.out; omega) (left - (m : Int)) (by omega) (by omega) _ _ _ _ _ H1.out S2.out).mono ?_; rintro e W1 ⟨rfl, h3⟩; have HQ : Aside0 (FillPostI Inv w0.heap.size w0 B n q0 q1 (some ad0) c0 okc W M2 s2 W1) := ⟨h3.1, HK2.out.then_ h3.2 (fun k hk => .inl hk)⟩; clear h3)
     go_roundg k1
     case measure => omega
     case rel => exact ⟨m + 1, M2, s2, by go_num, ⟨by have := HN.out; omega⟩, H', HQ⟩
    ·have hb1 : decide ((m : Int) ≤ left) = true := decide_eq_true (by omega)
     clear h6 hm1
     have q1 : ((i : Int) + 1) = ((i + 1 : Nat) : Int) := by omega
     have Q1 := Aside0.mk q1; clear q1
     go_wp2_with (go_at_call 80; rw [Q1.out]; refine (IH.out (i + 1) (by have := HI.out; omega) (left - (m : Int)) (by omega) (by omega) _ _ _ _ _ H1.out S2.out).mono ?_; rintro e W1 ⟨rfl, h3⟩; have HQ : Aside0 (FillPostI Inv w0.heap.size w0 B n q0 q1 (some ad0) c0 okc W M2 s2 W1) := ⟨h3.1, HK2.out.then_ h3.2 (fun k hk => .inl hk)⟩; clear h3)
     go_roundg k1
     case measure => omega
     case rel => exact ⟨m + 1, M2, s2, by go_num, ⟨by have := HN.out; omega⟩, H', HQ⟩
set_option maxHeartbeats 8000000 in
set_option maxRecDepth 100000 in
theorem each_callsI {A0 : Option Addr} {c0 : Nat} (l : List S63) (W : World) (hr : Kd.C k63 w0 A0 l.length l) (hbw : b0 = w0.heap.size) (hn : l.length ≤ 1048576) (hb : b0 ≤ W.heap.size) (hI : ∀ s W1 W', Inv s W1 → Kept W1 W' (fun k => k = W.heap.size + 2) → Inv s W') (hokc : ∀ k, okc k → k < W.heap.size) (HCB : CallOkI step Inv okc b0 w0 W.heap.size l.length q0 q1) (units : Int) (hu0 : 0 ≤ units) (hu1 : units ≤ 1000) (s : σ) (M' : List Int) (s' : σ) (h : partF l step l.length units (List.replicate l.length 0) s = some (M', s')) (hi : Inv s W) (hB : Below b0 w0 W) :
  Calls Try.prog 58 #[.slice A0 l.length c0, .int .i64 units, .func (.func 72) #[] #[.pointer (some ⟨q0, 0, none⟩), .pointer (some ⟨q1, 0, none⟩)]] W fun e W' => e = .returned (.tuple #[]) ∧ Inv s' W' ∧ Kept W W' okc ∧ Below b0 w0 W' := by
 have HR := Aside0.mk hr
 have HH := Aside0.mk hI
 have HK := Aside0.mk hokc
 have HC := Aside0.mk HCB
 have H := Aside0.mk h
 have HI := Aside0.mk hi
 have HB := Aside0.mk hB
 have HW := Aside0.mk hbw
 have hmk1 := print_make (P := Try.prog) 29 3 .i64 8 Try.underlying29 info3 (by omega) l.length (by omega)
 clear hr hI hokc HCB h hi hB hbw
 go_enter Try.func58, Try.ntmps58
 have hE := FillEnv.made W l.length A0 c0 (.func (.func 72) #[] #[.pointer (some ⟨q0, 0, none⟩), .pointer (some ⟨q1, 0, none⟩)])
 have hal : Kept W (((((W.alloc (.cells #[.slice A0 l.length c0] 31)).alloc (.cells #[.func (.func 72) #[] #[.pointer (some ⟨q0, 0, none⟩), .pointer (some ⟨q1, 0, none⟩)]] 84)).alloc (.cells (madeCells #[.int .i64 0] l.length) 3)).alloc (.cells #[.slice (some ⟨W.heap.size + 1 + 1, 0, none⟩) l.length l.length] 29)).alloc (.cells #[.func (.func 80) #[] #[.pointer (some ⟨W.heap.size, 0, none⟩), .pointer (some ⟨W.heap.size + 1, 0, none⟩), .pointer (some ⟨W.heap.size + 1 + 1 + 1, 0, none⟩), .pointer (some ⟨W.heap.size + 1 + 1 + 1 + 1, 0, none⟩)]] 102)) (fun _ => False) := ((((((Kept.refl _ _).alloc _).alloc _).alloc _).alloc _).alloc _)
 have hS : FillStI Inv b0 w0 W.heap.size l.length q0 q1 A0 c0 _ _ s := ⟨hE, HH.out _ _ _ HI.out (hal.mono (fun _ h => h.elim)), HB.out.trans ((below_alloc (below_alloc (below_alloc (below_alloc (below_alloc (Below.refl _ _) _) _) _) _) _).mono hb)⟩
 have HS := Aside0.mk hS
 have HAL := Aside0.mk hal
 clear hE hal hS
 go_wp2_with (go_at_call 80; refine (fill_callsI l rfl HR.out HW.out hn hb HH.out HK.out HC.out l.length 0 (by omega) units hu0 hu1 _ s M' s' _ H.out HS.out).mono ?_; rintro e W1 ⟨rfl, h3⟩; have HQ : Aside0 (Inv s' W1 ∧ Kept W W1 okc ∧ Below b0 w0 W1) := ⟨h3.1.I, (HAL.out.mono (fun _ h => h.elim)).then_ h3.2 (fun k hk => by (rcases hk with hk | hk; exact .inr (by omega); exact .inl hk)), h3.1.bel⟩; clear h3)
 refine bodyPost_end (results_none rfl _ _ _) rfl ?_
 exact ⟨rfl, HQ.out⟩
end

def impl_LeastImpurity.step (l : List S63) (s : Int) (m : List Int) : Option Int := some (if s < 0 then (sumsTo l m m.length).2.2.1 else if (sumsTo l m m.length).2.2.1 < s then (sumsTo l m m.length).2.2.1 else s)
def impl_LeastImpurity.f (k : Nat) (l0 : List S63) (u : Int) : Option (Int × Bool) := (impl_AreBins.f k l0).bind fun t => if t = true then (if u < 0 then some (0, false) else if u > 12 then some (0, false) else if l0.length ≤ 1048576 then ((partF l0 (impl_LeastImpurity.step l0) l0.length u (List.replicate l0.length 0) (-1)).bind fun q => if q.2 < 0 then some (0, false) else some (q.2, true)) else none) else some (0, false)
/-- What the variables hold between two calls: the bins, the least sum. -/
structure LiInv (h hn n : Nat) (A0 : Option Addr) (c0 : Nat) (s : Int) (W : World) : Prop where
 ha : W.heap[h]? = some (.cells #[.slice A0 n c0] 31 (0, 0))
 hs : W.heap[hn]? = some (.cells #[.int .i64 s] 3 (0, 0))
theorem LiInv.kept {h hn n : Nat} {A0 : Option Addr} {c0 : Nat} {s : Int} {W W' : World} {S : Nat → Prop} (I : LiInv h hn n A0 c0 s W) (hk : Kept W W' S) (h1 : ¬ S h) (h2 : ¬ S hn) : LiInv h hn n A0 c0 s W' :=
 ⟨blk_kept I.ha hk h1, blk_kept I.hs hk h2⟩
set_option maxHeartbeats 8000000 in
set_option maxRecDepth 100000 in
theorem li_call (A0 : Option Addr) (c0 : Nat) (l0 : List S63) (w : World) (hn : Nat) (hnw : w.heap.size + 1 ≤ hn) (hr0 : Kd.C k63 w A0 l0.length l0) (hc0 : l0.length ≤ c0) :
  CallOkI (impl_LeastImpurity.step l0) (LiInv w.heap.size hn l0.length A0 c0) (fun k => k = hn) w.heap.size w (hn + 1) l0.length w.heap.size hn := by
 have HR0 := Aside0.mk hr0
 have HC0 := Aside0.mk hc0
 clear hr0 hc0
 intro s s' m A c W hs hlm hrm hcm hi hB hsz
 have HRm := Aside0.mk hrm
 have HCm := Aside0.mk hcm
 have HLm := Aside0.mk hlm
 have HI := Aside0.mk hi
 have HB := Aside0.mk hB
 have HW := Aside0.mk hnw
 unfold impl_LeastImpurity.step at hs
 simp only [Option.some.injEq] at hs
 obtain ⟨x0, x, x3, x4, hx⟩ : ∃ x0 x x3 x4, sumsTo l0 m m.length = (x0, x, x3, x4) := ⟨_, _, _, _, rfl⟩
 rw [hx] at hs
 have H2 := Aside0.mk hs
 have hcall := impl_blendSums.callsO A0 c0 l0 A c m W (Kd.C_below HR0.out HB.out) HC0.out HRm.out HCm.out (by rw [HLm.out]; exact Nat.le_refl _)
 rw [hx] at hcall
 have HCA := Aside0.mk hcall
 clear hs hcm hrm hi hB hsz hlm hcall hx
 have hargs : Value.slice A l0.length c = Value.slice A m.length c := by rw [HLm.out]
 rw [hargs]
 clear hargs
 have hq0 : W.cell? ⟨w.heap.size, 0, none⟩ = some (.slice A0 l0.length c0) := (blk_cell HI.out.ha 0).trans rfl
 go_enter Try.func72, Try.ntmps72
 go_wp2_with (go_at_call 66; fail)
 refine HCA.out.mono ?_
 rintro e W1 ⟨rfl, hb⟩
 have HI1 := am (HI.out.kept (Kept.of_below hb (fun _ => False)) (fun h => h) (fun h => h))
 have HB1 := am (below_step HB.out hb)
 have HK1 := am (Kept.of_below hb (fun k => k = hn))
 clear hb hq0 HI HB HRm HCA
 have hx1 : W1.cell? ⟨hn, 0, none⟩ = some (.int .i64 s) := (blk_cell HI1.out.hs 0).trans rfl
 have hf1 : W1.frozen? ⟨hn, 0, none⟩ = false := blk_frozen HI1.out.hs 0
 have H2' := H2.out
 clear H2
 have hix := ix42 x0 x x3 x4
 try simp only at H2'
 have fin : ∀ (y : Int) (WW : World), WW = W1.setCell ⟨hn, 0, none⟩ (.int .i64 y) → s' = y → LiInv w.heap.size hn l0.length A0 c0 s' WW ∧ Kept W WW (fun k => k = hn) ∧ Below w.heap.size w WW := by
  intro y WW hWW hs'
  have hw := HW.out
  subst hWW hs'
  exact ⟨⟨blk_far HI1.out.ha (by simp; omega) _, (blk_set HI1.out.hs 0 _).trans rfl⟩, HK1.out.setCell (.inl rfl) _, HB1.out.setCell (by simp; omega) _⟩
 have HF := Aside0.mk fin
 have HF2 : Aside0 (LiInv w.heap.size hn l0.length A0 c0 s W1 ∧ Kept W W1 (fun k => k = hn) ∧ Below w.heap.size w W1) := ⟨HI1.out, HK1.out, HB1.out⟩
 clear fin HI1 HB1 HK1
 by_cases b1 : s < 0
 ·rw [if_pos b1] at H2'
  have d1 : decide (s < 0) = true := decide_eq_true b1
  have H2 := Aside0.mk H2'
  clear H2'
  go_wp2
  refine bodyPost_end (results_none rfl _ _ _) rfl ?_
  exact ⟨rfl, HF.out x3 _ rfl H2.out.symm⟩
 ·rw [if_neg b1] at H2'
  have d1 : decide (s < 0) = false := decide_eq_false b1
  by_cases b2 : x3 < s
  ·rw [if_pos b2] at H2'
   have d2 : decide (x3 < s) = true := decide_eq_true b2; have H2 := Aside0.mk H2'; clear H2'
   go_wp2
   refine bodyPost_end (results_none rfl _ _ _) rfl ?_
   exact ⟨rfl, HF.out x3 _ rfl H2.out.symm⟩
  ·rw [if_neg b2] at H2'
   have d2 : decide (x3 < s) = false := decide_eq_false b2; have H2 := Aside0.mk H2'; clear H2'
   go_wp2
   refine bodyPost_end (results_none rfl _ _ _) rfl ?_
   exact ⟨rfl, by rw [← H2.out]; exact HF2.out⟩
set_option maxHeartbeats 8000000 in
set_option maxRecDepth 100000 in
theorem impl_LeastImpurity.calls (k : Nat) (A0 : Option Addr) (c0 : Nat) (l0 : List S63) (u : Int) (r1 : Int) (r2 : Bool) (w : World) (hr0 : Kd.C k63 w A0 l0.length l0) (hc0 : l0.length ≤ c0) (h : impl_LeastImpurity.f k l0 u = some (r1, r2)) :
  Calls Try.prog 37 #[.slice A0 l0.length c0, .int .i64 u] w fun e w' => e = .returned (.tuple #[.int .i64 r1, .bool r2]) ∧ Below w.heap.size w w' := by
 have HR0 := Aside0.mk hr0
 have HC0 := Aside0.mk hc0
 unfold impl_LeastImpurity.f at h
 obtain ⟨t, h1, h2⟩ := Option.bind_eq_some_iff.1 h
 have H1 := Aside0.mk h1
 clear hr0 hc0 h h1
 go_enter Try.func37, Try.ntmps37
 go_wp2_with (go_at_call 40; fail)
 refine (impl_AreBins.calls k A0 c0 l0 t _ (Kd.C_alloc HR0.out _) HC0.out H1.out).mono ?_
 rintro e W1 ⟨rfl, hb⟩
 have hb1 : (W1.heap[w.heap.size]?) = some (.cells #[.slice A0 l0.length c0] 31 (0, 0)) := (hb.block _ (by simp)).trans (blk_new _ _)
 have hz1 : w.heap.size + 1 ≤ W1.heap.size := by have := hb.size; simp only [World.size_alloc] at this; exact this
 have HB := am (below_step (below_alloc (Below.refl w.heap.size w) _) hb)
 have HB1 := Aside0.mk hb1
 have HZ := Aside0.mk hz1
 have H2 := Aside0.mk h2
 clear hb hb1 hz1 h2
 cases t with
 | false =>
  have h2 := H2.out
  simp only [Bool.false_eq_true, if_false, Option.some.injEq, Prod.mk.injEq] at h2
  obtain ⟨rfl, rfl⟩ := h2
  clear HB1 HZ H2
  go_wp2
  go_ret2
  exact ⟨rfl, HB.out⟩
 | true =>
  have h2 := H2.out
  clear H2
  simp only [if_true] at h2
  by_cases c1 : u < 0
  ·rw [if_pos c1] at h2
   simp only [Option.some.injEq, Prod.mk.injEq] at h2; obtain ⟨rfl, rfl⟩ := h2; have d1 : decide (u < 0) = true := decide_eq_true c1; clear HB1 HZ
   go_wp2
   go_ret2
   exact ⟨rfl, HB.out⟩
  ·rw [if_neg c1] at h2
   have d1 : decide (u < 0) = false := decide_eq_false c1
   by_cases c2 : u > 12
   ·rw [if_pos c2] at h2
    simp only [Option.some.injEq, Prod.mk.injEq] at h2; obtain ⟨rfl, rfl⟩ := h2; have d2 : decide (u > 12) = true := decide_eq_true c2; clear HB1 HZ
    go_wp2
    go_ret2
    exact ⟨rfl, HB.out⟩
   ·rw [if_neg c2] at h2
    have d2 : decide (u > 12) = false := decide_eq_false c2
    have hg : l0.length ≤ 1048576 := by
     by_cases g : l0.length ≤ 1048576
     ·exact g
     ·rw [if_neg g] at h2; cases h2
    rw [if_pos hg] at h2; obtain ⟨⟨M', s'⟩, h3, h4⟩ := Option.bind_eq_some_iff.1 h2; have H3 := Aside0.mk h3; have H4 := Aside0.mk h4; have HN := Aside0.mk hg; have hI : LiInv w.heap.size W1.heap.size l0.length A0 c0 (-1) (W1.alloc (.cells #[.int .i64 (-1)] 3)) := ⟨blk_alloc HB1.out _, blk_new _ _⟩; have hq0 : (W1.alloc (.cells #[.int .i64 (-1)] 3)).cell? ⟨w.heap.size, 0, none⟩ = some (.slice A0 l0.length c0) := (blk_cell hI.ha 0).trans rfl; have HI := Aside0.mk hI; clear h2 h3 h4 hg hI
    go_wp2_with (go_at_call 58; fail)
    generalize hW : W1.alloc (.cells #[.int .i64 (-1)] 3) = W3
    have hz3 : W3.heap.size = W1.heap.size + 1 := by rw [← hW]; simp
    have hI : LiInv w.heap.size W1.heap.size l0.length A0 c0 (-1) W3 := by rw [← hW]; exact HI.out
    have hB3 : Below w.heap.size w W3 := by rw [← hW]; exact HB.out.alloc HB.out.size _
    have hz := HZ.out; clear hW hq0 HI
    refine (each_callsI (step := impl_LeastImpurity.step l0) (Inv := LiInv w.heap.size W1.heap.size l0.length A0 c0) (okc := fun k => k = W1.heap.size) (b0 := w.heap.size) (w0 := w) (q0 := w.heap.size) (q1 := W1.heap.size) l0 W3 HR0.out rfl HN.out (by omega) (fun s W4 W5 h1 h2 => h1.kept h2 (by omega) (by omega)) (fun k hk => by omega) (by rw [hz3]; exact li_call A0 c0 l0 w W1.heap.size hz HR0.out HC0.out) u (by omega) (by omega) (-1) M' s' H3.out hI hB3).mono ?_
    rintro e W5 ⟨rfl, h3, h4, h5⟩
    have hx : W5.cell? ⟨W1.heap.size, 0, none⟩ = some (.int .i64 s') := (blk_cell h3.hs 0).trans rfl; have HB5 := Aside0.mk h5; clear h3 h4 h5 hI hB3 hz3 hz; have h4 := H4.out; clear H4
    try simp only at h4
    by_cases c3 : s' < 0
    ·rw [if_pos c3] at h4
     simp only [Option.some.injEq, Prod.mk.injEq] at h4; obtain ⟨rfl, rfl⟩ := h4; have d3 : decide (s' < 0) = true := decide_eq_true c3
     go_wp2
     go_ret2
     exact ⟨rfl, HB5.out⟩
    ·rw [if_neg c3] at h4
     simp only [Option.some.injEq, Prod.mk.injEq] at h4; obtain ⟨rfl, rfl⟩ := h4; have d3 : decide (s' < 0) = false := decide_eq_false c3
     go_wp2
     go_ret2
     exact ⟨rfl, HB5.out⟩


/-! ### spec_LeastImpurity: function 38 -/
def spec_LeastImpurity.f (k : Nat) (l0 : List (S63)) (a1 : Int) : Option (Int × Bool) := (spec_blBins.f k l0).bind fun t244 => (if t244 = true then ((spec_l1In.f a1 0 12).bind fun t245 => (if t245 = true then ((spec_blEdge.f k l0 a1 2).bind fun bt246 => (some (bt246.1, bt246.2.2))) else (some (0, false)))) else (some (0, false)))
set_option maxHeartbeats 8000000 in
set_option maxRecDepth 100000 in
theorem spec_LeastImpurity.calls (k : Nat) (A0 : Option Addr) (c0 : Nat) (l0 : List (S63)) (a1 : Int) (r1 : Int) (r2 : Bool) (w : World) (hr0 : Kd.C k63 w A0 l0.length l0) (hc0 : l0.length ≤ c0) (h : spec_LeastImpurity.f k l0 a1 = some (r1, r2)) :
  Calls Try.prog 38 #[.slice A0 l0.length c0, .int .i64 a1] w fun e w' => e = .returned (.tuple #[.int .i64 r1, .bool r2]) ∧ Below w.heap.size w w' := by
 have HR0 := Aside0.mk hr0
 have HC0 := Aside0.mk hc0
 clear hr0 hc0
 have HB := am (Below.refl w.heap.size w)
 have H : ((spec_blBins.f k l0).bind fun t244 => (if t244 = true then ((spec_l1In.f a1 0 12).bind fun t245 => (if t245 = true then ((spec_blEdge.f k l0 a1 2).bind fun bt246 => (some (bt246.1, bt246.2.2))) else (some (0, false)))) else (some (0, false)))) = some (r1, r2) := h
 clear h
 replace H := Option.bind_eq_some_iff.mp H
 obtain ⟨t244, A30, H⟩ := H
 replace H : (if t244 = true then ((spec_l1In.f a1 0 12).bind fun t245 => (if t245 = true then ((spec_blEdge.f k l0 a1 2).bind fun bt246 => (some (bt246.1, bt246.2.2))) else (some (0, false)))) else (some (0, false))) = some (r1, r2) := H
 have A3 := Aside0.mk A30
 clear A30
 by_cases c4 : t244 = true
 ·subst c4
  have H1 : ((spec_l1In.f a1 0 12).bind fun t245 => (if t245 = true then ((spec_blEdge.f k l0 a1 2).bind fun bt246 => (some (bt246.1, bt246.2.2))) else (some (0, false)))) = some (r1, r2) := by rw [if_pos rfl] at H; exact H
  clear H
  have H := H1
  clear H1
  replace H := Option.bind_eq_some_iff.mp H
  obtain ⟨t245, A50, H⟩ := H
  replace H : (if t245 = true then ((spec_blEdge.f k l0 a1 2).bind fun bt246 => (some (bt246.1, bt246.2.2))) else (some (0, false))) = some (r1, r2) := H
  have A5 := Aside0.mk A50
  clear A50
  by_cases c6 : t245 = true
  ·subst c6
   have H1 : ((spec_blEdge.f k l0 a1 2).bind fun bt246 => (some (bt246.1, bt246.2.2))) = some (r1, r2) := by rw [if_pos rfl] at H; exact H
   clear H; have H := H1; clear H1; replace H := Option.bind_eq_some_iff.mp H; obtain ⟨⟨t246, t247, t248⟩, A70, H⟩ := H; replace H : (some (t246, t248)) = some (r1, r2) := H; have A7 := Aside0.mk A70; clear A70; simp only [Option.some.injEq, Prod.mk.injEq] at H; obtain ⟨rfl, rfl⟩ := H
   go_enter Try.func38, Try.ntmps38
   go_wp2_with (first | ((with_reducible refine gate_callee (f := 69) rfl ?_); refine goesL_ (some 10) rfl rfl Try.func69 (by kernel_rfl) rfl #[.slice A0 l0.length c0] rfl zd' ?_; (with_reducible refine (spec_blBins.calls k _ _ l0 true _ ?side1 ?side2 A3.out).mono ?_); (case side1 => exact zj'); (case side2 => exact zl2'); rintro e w8 ⟨rfl, hb⟩; refine ⟨_, rfl, ?_⟩; have n0_ := am (below_step za' hb); clear HB; have HB := n0_; clear n0_; (try clear hb); (try clear hb2); (try clear hk); (try clear hi)) | (go_at_call 70; (with_reducible refine (spec_l1In.calls a1 0 12 true _ A5.out).mono ?_); rintro e w' ⟨rfl, ⟨nd, rfl⟩⟩) | ((with_reducible refine gate_callee (f := 71) rfl ?_); refine goesL_ (some 20) rfl rfl Try.func71 (by kernel_rfl) rfl #[.slice A0 l0.length c0, .int .i64 a1, .int .i64 2] rfl zd' ?_; (with_reducible refine (spec_blEdge.calls k _ _ l0 a1 2 t246 t247 t248 _ ?side1 ?side2 A7.out).mono ?_); (case side1 => exact zc3'); (case side2 => exact zl2'); rintro e w9 ⟨rfl, hb⟩; refine ⟨_, rfl, ?_⟩; have n0_ := am (below_step za' hb); clear HB; have HB := n0_; clear n0_; (try clear hb); (try clear hb2); (try clear hk); (try clear hi)))
   go_ret2
   exact ⟨by first | rfl | (simp [errW_none, errW_some] <;> rfl) | (simp [*, errW_none, errW_some] <;> rfl), by repeat (first | (with_reducible first | exact HB.out | apply ba | apply bn | apply below_drew1) | exact HB.out)⟩
  ·replace c6 := Bool.eq_false_iff.mpr c6
   subst c6
   have H1 : (some (0, false)) = some (r1, r2) := by rw [if_neg (show ¬ (false = true) by decide)] at H; exact H
   clear H; have H := H1; clear H1; simp only [Option.some.injEq, Prod.mk.injEq] at H; obtain ⟨rfl, rfl⟩ := H
   go_enter Try.func38, Try.ntmps38
   go_wp2_with (first | ((with_reducible refine gate_callee (f := 69) rfl ?_); refine goesL_ (some 10) rfl rfl Try.func69 (by kernel_rfl) rfl #[.slice A0 l0.length c0] rfl zd' ?_; (with_reducible refine (spec_blBins.calls k _ _ l0 true _ ?side1 ?side2 A3.out).mono ?_); (case side1 => exact zj'); (case side2 => exact zl2'); rintro e w10 ⟨rfl, hb⟩; refine ⟨_, rfl, ?_⟩; have n0_ := am (below_step za' hb); clear HB; have HB := n0_; clear n0_; (try clear hb); (try clear hb2); (try clear hk); (try clear hi)) | (go_at_call 70; (with_reducible refine (spec_l1In.calls a1 0 12 false _ A5.out).mono ?_); rintro e w' ⟨rfl, ⟨nd, rfl⟩⟩))
   go_ret2
   exact ⟨by first | rfl | (simp [errW_none, errW_some] <;> rfl) | (simp [*, errW_none, errW_some] <;> rfl), by repeat (first | (with_reducible first | exact HB.out | apply ba | apply bn | apply below_drew1) | exact HB.out)⟩
 ·replace c4 := Bool.eq_false_iff.mpr c4
  subst c4
  have H1 : (some (0, false)) = some (r1, r2) := by rw [if_neg (show ¬ (false = true) by decide)] at H; exact H
  clear H
  have H := H1
  clear H1
  simp only [Option.some.injEq, Prod.mk.injEq] at H
  obtain ⟨rfl, rfl⟩ := H
  go_enter Try.func38, Try.ntmps38
  go_wp2_with (first | ((with_reducible refine gate_callee (f := 69) rfl ?_); refine goesL_ (some 10) rfl rfl Try.func69 (by kernel_rfl) rfl #[.slice A0 l0.length c0] rfl zd' ?_; (with_reducible refine (spec_blBins.calls k _ _ l0 false _ ?side1 ?side2 A3.out).mono ?_); (case side1 => exact zj'); (case side2 => exact zl2'); rintro e w11 ⟨rfl, hb⟩; refine ⟨_, rfl, ?_⟩; have n0_ := am (below_step za' hb); clear HB; have HB := n0_; clear n0_; (try clear hb); (try clear hb2); (try clear hk); (try clear hi)))
  go_ret2
  exact ⟨by first | rfl | (simp [errW_none, errW_some] <;> rfl) | (simp [*, errW_none, errW_some] <;> rfl), by repeat (first | (with_reducible first | exact HB.out | apply ba | apply bn | apply below_drew1) | exact HB.out)⟩

end Go.Proofs.Ytcinecbfkeefaaa.PFnBins
