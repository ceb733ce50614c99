/- Text written by a program for this claim: contracts of the functions of one law. -/
import Derived.Test.YtbgjhdhdfdfpkaaDoorPFnExactCheapestWayx0
namespace Go.Proofs.YtbgjhdhdfdfpkaaDoor.PFnExactCheapestWay
open Go.RowKit Go.Proofs.YtbgjhdhdfdfpkaaDoorW.PrintWords Go.Proofs.YtbgjhdhdfdfpkaaDoorW.PrintLast Go.Proofs.YtbgjhdhdfdfpkaaDoorW.PrintMore
attribute [local go_sem] max2_int min2_int max_two min_two max_three min_three max_four min_four   -- for this text's walks alone
set_option linter.unusedVariables false
set_option linter.unusedSimpArgs false
open ShortPFnExactCheapestWay0

/-! ### impl_bestSteps: function 59 -/
def impl_bestSteps.l0 : Nat → List (List Int) → Int → Int → Int → Int → Option (Int)
 | 0, _, _, _, _, _ => none
 | k + 1, x0, x1, x5, x9, x10 => if x10 < x9 then (if 0 ≤ x10 then (if x10 < (x0.length : Int) then (if 0 ≤ (wrap64 ((wrap64 (x1 * 5)) + 4)) then (if (wrap64 ((wrap64 (x1 * 5)) + 4)) < ((rd_L1 x0 x10).length : Int) then (if (rd (rd_L1 x0 x10) (wrap64 ((wrap64 (x1 * 5)) + 4))) < 1099511627776 then (if x5 < 0 then (impl_bestSteps.l0 k x0 x1 x10 x9 (wrap64 (x10 + 1))) else (if 0 ≤ x5 then (if x5 < (x0.length : Int) then (if (wrap64 ((wrap64 (x1 * 5)) + 4)) < ((rd_L1 x0 x5).length : Int) then (if (rd (rd_L1 x0 x10) (wrap64 ((wrap64 (x1 * 5)) + 4))) < (rd (rd_L1 x0 x5) (wrap64 ((wrap64 (x1 * 5)) + 4))) then (impl_bestSteps.l0 k x0 x1 x10 x9 (wrap64 (x10 + 1))) else (impl_bestSteps.l0 k x0 x1 x5 x9 (wrap64 (x10 + 1)))) else (none)) else (none)) else (none))) else (impl_bestSteps.l0 k x0 x1 x5 x9 (wrap64 (x10 + 1)))) else (none)) else (none)) else (none)) else (none)) else (some x5)
def impl_bestSteps.f (k : Nat) (l0 : List (List Int)) (a1 : Int) : Option (Int) := impl_bestSteps.l0 k l0 a1 (-1) (l0.length : Int) 0
theorem impl_bestSteps.mono_l : ∀ k, (∀ y0 y1 y2 y3 y4, LeO (impl_bestSteps.l0 k y0 y1 y2 y3 y4) (impl_bestSteps.l0 (k + 1) y0 y1 y2 y3 y4))
 | 0 => fun _ _ _ _ _ r h => by simp [impl_bestSteps.l0] at h
 | k + 1 => by
  have ih0 := impl_bestSteps.mono_l k
  ·intro y0 y1 y2 y3 y4
   unfold impl_bestSteps.l0
   repeat' first
   | (with_reducible exact ih0 _ _ _ _ _)
   | (with_reducible exact LeO.refl _)
   | (with_reducible exact LeO.none _)
   | (with_reducible refine LeO.ite ?_ ?_)
   | (with_reducible refine LeO.bind ?_ (fun _ => ?_))
   | exact ih0 _ _ _ _ _
   | exact LeO.none _
   | refine LeO.ite ?_ ?_
   | refine LeO.bind ?_ (fun _ => ?_)
theorem impl_bestSteps.mono : ∀ a0 a1 k, LeO (impl_bestSteps.f k a0 a1) (impl_bestSteps.f (k + 1) a0 a1) := by
 intro a0 a1 k
 have ih0 := impl_bestSteps.mono_l k
 unfold impl_bestSteps.f
 repeat' first
   | (with_reducible exact ih0 _ _ _ _ _)
   | (with_reducible exact LeO.refl _)
   | (with_reducible exact LeO.none _)
   | (with_reducible refine LeO.ite ?_ ?_)
   | (with_reducible refine LeO.bind ?_ (fun _ => ?_))
   | exact ih0 _ _ _ _ _
   | exact LeO.none _
   | refine LeO.ite ?_ ?_
   | refine LeO.bind ?_ (fun _ => ?_)
set_option maxHeartbeats 8000000 in
set_option maxRecDepth 100000 in
theorem impl_bestSteps.calls (k : Nat) (A0 : Option Addr) (c0 : Nat) (l0 : List (List Int)) (a1 : Int) (r : Int) (w : World) (hr0 : Kd.C (Kd.slice 3 (Kd.int .i64)) w A0 l0.length l0) (hc0 : l0.length ≤ c0) (h : impl_bestSteps.f k l0 a1 = some r) :
  Calls Tryd.prog 59 #[.slice A0 l0.length c0, .int .i64 a1] w fun e w' => e = .returned (.int .i64 r) ∧ Drawn0 w w' := by
 have HR0 := Aside0.mk hr0
 have HC0 := Aside0.mk hc0
 clear hr0 hc0
 have H : (impl_bestSteps.l0 k l0 a1 (-1) (l0.length : Int) 0) = some r := h
 clear h
 have H' := Aside0.mk H
 clear H
 go_enter Tryd.func59, Tryd.ntmps59
 go_wp2
 go_loopg [5, 10] k (fun kq v5 v10 w' => ∃ (x5_1 : Int) (x10_1 : Int), v5 = .int .i64 x5_1 ∧ v10 = .int .i64 x10_1 ∧ Aside0 (impl_bestSteps.l0 kq l0 a1 x5_1 (l0.length : Int) x10_1 = some r) ∧ Aside0 (kq ≤ k) ∧ Drawn0 w w')
 case atStart => exact ⟨((-1)), (0), zd', zd', H', ⟨Nat.le_refl _⟩, by repeat (first | exact Drawn0.refl _ | apply Drawn0.step)⟩
 case round =>
  clear H'
  try clear p2
  obtain ⟨x5_1, x10_1, rfl, rfl, HA, HK1, ⟨m1, rfl⟩⟩ := hrel
  cases gk with
  | zero => exact absurd HA.out (by simp [impl_bestSteps.l0])
  | succ k1 =>
   have H := HA.out
   clear HA
   simp only [impl_bestSteps.l0] at H
   by_cases c3 : x10_1 < (l0.length : Int)
   ·rw [if_pos c3] at H
    have c3b0 : decide (x10_1 < (l0.length : Int)) = true := decide_eq_true c3
    clear c3
    by_cases c4 : 0 ≤ x10_1
    ·rw [if_pos c4] at H
     have c4b0 : decide (0 ≤ x10_1) = true := decide_eq_true c4
     clear c4
     by_cases c5 : x10_1 < (l0.length : Int)
     ·rw [if_pos c5] at H
      have c5b0 : decide (x10_1 < (l0.length : Int)) = true := decide_eq_true c5
      clear c5
      obtain ⟨ji6, hji6⟩ : ∃ j_ : Int, (wrap64 ((wrap64 (a1 * 5)) + 4)) = j_ := ⟨_, rfl⟩
      replace H : (if 0 ≤ (ji6) then (if (ji6) < ((rd_L1 l0 x10_1).length : Int) then (if (rd (rd_L1 l0 x10_1) (ji6)) < 1099511627776 then (if x5_1 < 0 then (impl_bestSteps.l0 k1 l0 a1 x10_1 (l0.length : Int) (wrap64 (x10_1 + 1))) else (if 0 ≤ x5_1 then (if x5_1 < (l0.length : Int) then (if (ji6) < ((rd_L1 l0 x5_1).length : Int) then (if (rd (rd_L1 l0 x10_1) (ji6)) < (rd (rd_L1 l0 x5_1) (ji6)) then (impl_bestSteps.l0 k1 l0 a1 x10_1 (l0.length : Int) (wrap64 (x10_1 + 1))) else (impl_bestSteps.l0 k1 l0 a1 x5_1 (l0.length : Int) (wrap64 (x10_1 + 1)))) else (none)) else (none)) else (none))) else (impl_bestSteps.l0 k1 l0 a1 x5_1 (l0.length : Int) (wrap64 (x10_1 + 1)))) else (none)) else (none)) = some r := by first | (rw [hji6] at H; exact H) | (simp only [hji6] at H ⊢; exact H)
      have hji6w : (IntKind.i64.wrap ((wrap64 (a1 * 5)) + 4)) = ji6 := (i64_w _).trans hji6
      by_cases c7 : 0 ≤ (ji6)
      ·rw [if_pos c7] at H
       have c7b0 : decide (0 ≤ (ji6)) = true := decide_eq_true c7
       clear c7
       by_cases c8 : (ji6) < ((rd_L1 l0 x10_1).length : Int)
       ·rw [if_pos c8] at H
        have c8b0 : decide ((ji6) < ((rd_L1 l0 x10_1).length : Int)) = true := decide_eq_true c8
        clear c8
        by_cases c9 : (rd (rd_L1 l0 x10_1) (ji6)) < 1099511627776
        ·rw [if_pos c9] at H
         have c9b0 : decide ((rd (rd_L1 l0 x10_1) (ji6)) < 1099511627776) = true := decide_eq_true c9
         clear c9
         by_cases c10 : x5_1 < 0
         ·rw [if_pos c10] at H
          have c10b0 : decide (x5_1 < 0) = true := decide_eq_true c10
          clear c10
          have H' := Aside0.mk H
          clear H
          have p227 : 0 ≤ (x10_1 : Int) := odt
          have q227 : x10_1 < (l0.length : Int) := odt
          obtain ⟨ad227, A227_0, c227_0, e227, hx227_0, hl227_0, hi227_0⟩ := at_L1 HR0.out x10_1 p227 q227
          cases e227
          have HR227_0 := Aside0.mk hi227_0
          have HC227_0 := Aside0.mk hl227_0
          clear hi227_0 hl227_0
          replace p227 := eq_true p227
          replace q227 := eq_true q227
          have p228 : 0 ≤ ((ji6) : Int) := odt
          have q228 : (ji6) < ((rd_L1 l0 x10_1).length : Int) := odt
          obtain ⟨ad228, e228, hx228_0⟩ := Kd.at_int HR227_0.out (ji6) p228 q228
          cases e228
          replace p228 := eq_true p228
          replace q228 := eq_true q228
          go_wp2
          go_roundg k1
          case measure => have := HK1.out; omega
          case rel => exact ⟨(x10_1), (wrap64 (x10_1 + 1)), zd', zd', H', ⟨zf3'⟩, by repeat (first | exact Drawn0.refl _ | apply Drawn0.step)⟩
         ·rw [if_neg c10] at H
          have c10b0 : decide (x5_1 < 0) = false := decide_eq_false c10
          clear c10
          by_cases c11 : 0 ≤ x5_1
          ·rw [if_pos c11] at H
           have c11b0 : decide (0 ≤ x5_1) = true := decide_eq_true c11
           clear c11
           by_cases c12 : x5_1 < (l0.length : Int)
           ·rw [if_pos c12] at H
            have c12b0 : decide (x5_1 < (l0.length : Int)) = true := decide_eq_true c12
            clear c12
            by_cases c13 : (ji6) < ((rd_L1 l0 x5_1).length : Int)
            ·rw [if_pos c13] at H
             have c13b0 : decide ((ji6) < ((rd_L1 l0 x5_1).length : Int)) = true := decide_eq_true c13
             clear c13
             by_cases c14 : (rd (rd_L1 l0 x10_1) (ji6)) < (rd (rd_L1 l0 x5_1) (ji6))
             ·rw [if_pos c14] at H
              have c14b0 : decide ((rd (rd_L1 l0 x10_1) (ji6)) < (rd (rd_L1 l0 x5_1) (ji6))) = true := decide_eq_true c14
              clear c14
              have H' := Aside0.mk H
              clear H
              have p227 : 0 ≤ (x10_1 : Int) := odt
              have q227 : x10_1 < (l0.length : Int) := odt
              obtain ⟨ad227, A227_0, c227_0, e227, hx227_0, hl227_0, hi227_0⟩ := at_L1 HR0.out x10_1 p227 q227
              cases e227
              have HR227_0 := Aside0.mk hi227_0
              have HC227_0 := Aside0.mk hl227_0
              clear hi227_0 hl227_0
              replace p227 := eq_true p227
              replace q227 := eq_true q227
              have p228 : 0 ≤ ((ji6) : Int) := odt
              have q228 : (ji6) < ((rd_L1 l0 x10_1).length : Int) := odt
              obtain ⟨ad228, e228, hx228_0⟩ := Kd.at_int HR227_0.out (ji6) p228 q228
              cases e228
              replace p228 := eq_true p228
              replace q228 := eq_true q228
              have p229 : 0 ≤ (x5_1 : Int) := odt
              have q229 : x5_1 < (l0.length : Int) := odt
              obtain ⟨ad229, A229_0, c229_0, e229, hx229_0, hl229_0, hi229_0⟩ := at_L1 HR0.out x5_1 p229 q229
              obtain rfl : ad227 = ad229 := (by injection e229)
              have HR229_0 := Aside0.mk hi229_0
              have HC229_0 := Aside0.mk hl229_0
              clear hi229_0 hl229_0
              replace p229 := eq_true p229
              replace q229 := eq_true q229
              have p230 : 0 ≤ ((ji6) : Int) := odt
              have q230 : (ji6) < ((rd_L1 l0 x5_1).length : Int) := odt
              obtain ⟨ad230, e230, hx230_0⟩ := Kd.at_int HR229_0.out (ji6) p230 q230
              cases e230
              replace p230 := eq_true p230
              replace q230 := eq_true q230
              go_wp2
              go_roundg k1
              case measure => have := HK1.out; omega
              case rel => exact ⟨(x10_1), (wrap64 (x10_1 + 1)), zd', zd', H', ⟨zf3'⟩, by repeat (first | exact Drawn0.refl _ | apply Drawn0.step)⟩
             ·rw [if_neg c14] at H
              have c14b0 : decide ((rd (rd_L1 l0 x10_1) (ji6)) < (rd (rd_L1 l0 x5_1) (ji6))) = false := decide_eq_false c14
              clear c14
              have H' := Aside0.mk H
              clear H
              have p227 : 0 ≤ (x10_1 : Int) := odt
              have q227 : x10_1 < (l0.length : Int) := odt
              obtain ⟨ad227, A227_0, c227_0, e227, hx227_0, hl227_0, hi227_0⟩ := at_L1 HR0.out x10_1 p227 q227
              cases e227
              have HR227_0 := Aside0.mk hi227_0
              have HC227_0 := Aside0.mk hl227_0
              clear hi227_0 hl227_0
              replace p227 := eq_true p227
              replace q227 := eq_true q227
              have p228 : 0 ≤ ((ji6) : Int) := odt
              have q228 : (ji6) < ((rd_L1 l0 x10_1).length : Int) := odt
              obtain ⟨ad228, e228, hx228_0⟩ := Kd.at_int HR227_0.out (ji6) p228 q228
              cases e228
              replace p228 := eq_true p228
              replace q228 := eq_true q228
              have p229 : 0 ≤ (x5_1 : Int) := odt
              have q229 : x5_1 < (l0.length : Int) := odt
              obtain ⟨ad229, A229_0, c229_0, e229, hx229_0, hl229_0, hi229_0⟩ := at_L1 HR0.out x5_1 p229 q229
              obtain rfl : ad227 = ad229 := (by injection e229)
              have HR229_0 := Aside0.mk hi229_0
              have HC229_0 := Aside0.mk hl229_0
              clear hi229_0 hl229_0
              replace p229 := eq_true p229
              replace q229 := eq_true q229
              have p230 : 0 ≤ ((ji6) : Int) := odt
              have q230 : (ji6) < ((rd_L1 l0 x5_1).length : Int) := odt
              obtain ⟨ad230, e230, hx230_0⟩ := Kd.at_int HR229_0.out (ji6) p230 q230
              cases e230
              replace p230 := eq_true p230
              replace q230 := eq_true q230
              go_wp2
              go_roundg k1
              case measure => have := HK1.out; omega
              case rel => exact ⟨(x5_1), (wrap64 (x10_1 + 1)), zd', zd', H', ⟨zf3'⟩, by repeat (first | exact Drawn0.refl _ | apply Drawn0.step)⟩
            ·rw [if_neg c13] at H
             exact absurd H (by simp)
           ·rw [if_neg c12] at H
            exact absurd H (by simp)
          ·rw [if_neg c11] at H
           exact absurd H (by simp)
        ·rw [if_neg c9] at H
         have c9b0 : decide ((rd (rd_L1 l0 x10_1) (ji6)) < 1099511627776) = false := decide_eq_false c9
         clear c9
         have H' := Aside0.mk H
         clear H
         have p227 : 0 ≤ (x10_1 : Int) := odt
         have q227 : x10_1 < (l0.length : Int) := odt
         obtain ⟨ad227, A227_0, c227_0, e227, hx227_0, hl227_0, hi227_0⟩ := at_L1 HR0.out x10_1 p227 q227
         cases e227
         have HR227_0 := Aside0.mk hi227_0
         have HC227_0 := Aside0.mk hl227_0
         clear hi227_0 hl227_0
         replace p227 := eq_true p227
         replace q227 := eq_true q227
         have p228 : 0 ≤ ((ji6) : Int) := odt
         have q228 : (ji6) < ((rd_L1 l0 x10_1).length : Int) := odt
         obtain ⟨ad228, e228, hx228_0⟩ := Kd.at_int HR227_0.out (ji6) p228 q228
         cases e228
         replace p228 := eq_true p228
         replace q228 := eq_true q228
         go_wp2
         go_roundg k1
         case measure => have := HK1.out; omega
         case rel => exact ⟨(x5_1), (wrap64 (x10_1 + 1)), zd', zd', H', ⟨zf3'⟩, by repeat (first | exact Drawn0.refl _ | apply Drawn0.step)⟩
       ·rw [if_neg c8] at H
        exact absurd H (by simp)
      ·rw [if_neg c7] at H
       exact absurd H (by simp)
     ·rw [if_neg c5] at H
      exact absurd H (by simp)
    ·rw [if_neg c4] at H
     exact absurd H (by simp)
   ·rw [if_neg c3] at H
    have c3b0 : decide (x10_1 < (l0.length : Int)) = false := decide_eq_false c3
    clear c3
    obtain rfl := Option.some.inj H
    go_wp2
    go_ret
    exact ⟨by first | rfl | (simp; done) | (simp [*]; done), by repeat (first | exact Drawn0.refl _ | apply Drawn0.step)⟩

end Go.Proofs.YtbgjhdhdfdfpkaaDoor.PFnExactCheapestWay
