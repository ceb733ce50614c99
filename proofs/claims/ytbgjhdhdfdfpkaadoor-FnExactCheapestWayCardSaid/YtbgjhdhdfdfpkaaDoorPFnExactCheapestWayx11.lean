/- Text written by a program for this claim: contracts of the functions of one law. -/
import Derived.Test.YtbgjhdhdfdfpkaaDoorPFnExactCheapestWayx0
import Derived.Test.YtbgjhdhdfdfpkaaDoorPFnExactCheapestWayx8
import Derived.Test.YtbgjhdhdfdfpkaaDoorPFnExactCheapestWayx10
namespace Go.Proofs.YtbgjhdhdfdfpkaaDoor.PFnExactCheapestWay
open Go.RowKit Go.Proofs.YtbgjhdhdfdfpkaaDoorW.PrintWords Go.Proofs.YtbgjhdhdfdfpkaaDoorW.PrintLast Go.Proofs.YtbgjhdhdfdfpkaaDoorW.PrintMore
attribute [local go_sem] max2_int min2_int max_two min_two max_three min_three max_four min_four   -- for this text's walks alone
set_option linter.unusedVariables false
set_option linter.unusedSimpArgs false
open ShortPFnExactCheapestWay0

/-! ### impl_costsTo: function 58 -/
/-- The array of the sides is as the program lays it. -/
def Laid (w : World) : Prop := w.cell? ⟨0, 0, none⟩ = some (.int .i64 0) ∧ w.cell? ⟨0, 1, none⟩ = some (.int .i64 1) ∧ w.cell? ⟨0, 2, none⟩ = some (.int .i64 2) ∧ w.cell? ⟨0, 3, none⟩ = some (.int .i64 3)
theorem laid_below {w W : World} (h : Laid w) (hb : Below w.heap.size w W) : Laid W :=
 ⟨(hb.cell (World.block_lt_of_cell? w _ h.1)).trans h.1, (hb.cell (World.block_lt_of_cell? w _ h.2.1)).trans h.2.1, (hb.cell (World.block_lt_of_cell? w _ h.2.2.1)).trans h.2.2.1, (hb.cell (World.block_lt_of_cell? w _ h.2.2.2)).trans h.2.2.2⟩
theorem run_side (x : Int) (h0 : 0 ≤ x) (h4 : x < 4) (w_ : World) : (Instr.index 71 (.agg #[.int .i64 0, .int .i64 1, .int .i64 2, .int .i64 3]) (.int .i64 x)).run Tryd.prog w_ = .ok (.int .i64 x) w_ := by
 have h : x = 0 ∨ x = 1 ∨ x = 2 ∨ x = 3 := by omega
 rcases h with rfl | rfl | rfl | rfl <;> simp [Instr.index, run_underlying Tryd.underlying71, asIntOf, go_sem]
theorem side_next (x : Int) (h0 : 0 ≤ x) (h4 : x < 4) : 0 ≤ wrap64 (x + 1) := by unfold wrap64; omega

mutual
def impl_costsTo.l0 : Nat → Int → List Int → Int → Int → Int → Int → List Int → Int → Int → Int → Int → Option ((List (List Int)))
 | 0, _, _, _, _, _, _, _, _, _, _, _ => none
 | k + 1, x1, x5, x23, x24, x209000, x209001, x209002, x209003, x209004, x209005, x209006 => if x24 < x23 then (if 0 ≤ x24 then (if x24 < (x5.length : Int) then (impl_costsTo.l0 k x1 (x5.set (x24 : Int).toNat 1099511627776) x23 (wrap64 (x24 + 1)) x209000 x209001 x209002 x209003 x209004 x209005 x209006) else (none)) else (none)) else (impl_costsTo.l1 k x1 x5 0 x23 x209000 x209001 x209002 x209003 x209004 x209005 x209006)
def impl_costsTo.l1 : Nat → Int → List Int → Int → Int → Int → Int → List Int → Int → Int → Int → Int → Option ((List (List Int)))
 | 0, _, _, _, _, _, _, _, _, _, _, _ => none
 | k + 1, x1, x5, x7, x23, x209000, x209001, x209002, x209003, x209004, x209005, x209006 => if x7 < 5 then (if 0 ≤ (wrap64 ((wrap64 (x1 * 5)) + x7)) then (if (wrap64 ((wrap64 (x1 * 5)) + x7)) < (x5.length : Int) then (impl_costsTo.l1 k x1 (x5.set ((wrap64 ((wrap64 (x1 * 5)) + x7)) : Int).toNat 0) (wrap64 (x7 + 1)) x23 x209000 x209001 x209002 x209003 x209004 x209005 x209006) else (none)) else (none)) else (impl_costsTo.l2 k (([x5] : List (List Int))) 1 x23 x209000 x209001 x209002 x209003 x209004 x209005 x209006)
def impl_costsTo.l2 : Nat → List (List Int) → Int → Int → Int → Int → List Int → Int → Int → Int → Int → Option ((List (List Int)))
 | 0, _, _, _, _, _, _, _, _, _, _ => none
 | k + 1, x8, x9, x23, x209000, x209001, x209002, x209003, x209004, x209005, x209006 => if x9 < 60 then (if 0 ≤ x23 then (if (x23 : Int).toNat ≤ 35184372088832 then (impl_costsTo.l3 k x8 x9 (List.replicate (x23 : Int).toNat 0) x23 (x209002.length : Int) 0 x209000 x209001 x209002 x209003 x209004 x209005 x209006) else (none)) else (none)) else (some x8)
def impl_costsTo.l3 : Nat → List (List Int) → Int → List Int → Int → Int → Int → Int → Int → List Int → Int → Int → Int → Int → Option ((List (List Int)))
 | 0, _, _, _, _, _, _, _, _, _, _, _, _, _ => none
 | k + 1, x8, x9, x10, x23, x52, x53, x209000, x209001, x209002, x209003, x209004, x209005, x209006 => if x53 < x52 then (impl_costsTo.l4 k x8 x9 x10 x53 0 x23 x52 x53 x209000 x209001 x209002 x209003 x209004 x209005 x209006) else (if x8.length < 5864062014805 then (impl_costsTo.l2 k (x8 ++ [x10]) (wrap64 (x9 + 1)) x23 x209000 x209001 x209002 x209003 x209004 x209005 x209006) else (none))
def impl_costsTo.l4 : Nat → List (List Int) → Int → List Int → Int → Int → Int → Int → Int → Int → Int → List Int → Int → Int → Int → Int → Option ((List (List Int)))
 | 0, _, _, _, _, _, _, _, _, _, _, _, _, _, _, _ => none
 | k + 1, x8, x9, x10, x11, x12, x23, x52, x53, x209000, x209001, x209002, x209003, x209004, x209005, x209006 => if x12 < 5 then (impl_costsTo.l5 k x8 x9 x10 x11 x12 1099511627776 x23 x52 x53 0 x209000 x209001 x209002 x209003 x209004 x209005 x209006) else (impl_costsTo.l3 k x8 x9 x10 x23 x52 (wrap64 (x53 + 1)) x209000 x209001 x209002 x209003 x209004 x209005 x209006)
def impl_costsTo.l5 : Nat → List (List Int) → Int → List Int → Int → Int → Int → Int → Int → Int → Int → Int → Int → List Int → Int → Int → Int → Int → Option ((List (List Int)))
 | 0, _, _, _, _, _, _, _, _, _, _, _, _, _, _, _, _, _ => none
 | k + 1, x8, x9, x10, x11, x12, x13, x23, x52, x53, x61, x209000, x209001, x209002, x209003, x209004, x209005, x209006 => if x61 < 4 then ((impl_sideOf.f x209000 x209001 x209002 x209003 x209004 x209005 x209006 x11 x61).bind fun t224 => (if t224 ≥ 0 then (if x61 = (wrap64 (3 - x12)) then (impl_costsTo.l5 k x8 x9 x10 x11 x12 x13 x23 x52 x53 (wrap64 (x61 + 1)) x209000 x209001 x209002 x209003 x209004 x209005 x209006) else (if 0 ≤ (wrap64 (x9 - 1)) then (if (wrap64 (x9 - 1)) < (x8.length : Int) then ((impl_moveCost.f x209000 x209001 x209002 x209003 x209004 x209005 x209006 (rd_L1 x8 (wrap64 (x9 - 1))) x11 t224 x12 x61).bind fun t226 => (impl_costsTo.l5 k x8 x9 x10 x11 x12 (mn x13 t226) x23 x52 x53 (wrap64 (x61 + 1)) x209000 x209001 x209002 x209003 x209004 x209005 x209006)) else (none)) else (none))) else (impl_costsTo.l5 k x8 x9 x10 x11 x12 x13 x23 x52 x53 (wrap64 (x61 + 1)) x209000 x209001 x209002 x209003 x209004 x209005 x209006))) else (if 0 ≤ (wrap64 ((wrap64 (x11 * 5)) + x12)) then (if (wrap64 ((wrap64 (x11 * 5)) + x12)) < (x10.length : Int) then (impl_costsTo.l4 k x8 x9 (x10.set ((wrap64 ((wrap64 (x11 * 5)) + x12)) : Int).toNat x13) x11 (wrap64 (x12 + 1)) x23 x52 x53 x209000 x209001 x209002 x209003 x209004 x209005 x209006) else (none)) else (none))
end
def impl_costsTo.f (k : Nat) (a0_0 : Int) (a0_1 : Int) (l0_2 : List Int) (a0_3 : Int) (a0_4 : Int) (a0_5 : Int) (a0_6 : Int) (a1 : Int) : Option ((List (List Int))) := if 0 ≤ (wrap64 ((l0_2.length : Int) * 5)) then (if (wrap64 ((l0_2.length : Int) * 5) : Int).toNat ≤ 35184372088832 then ((some (List.replicate (wrap64 ((l0_2.length : Int) * 5) : Int).toNat 0 : List Int)).bind fun y209 => (impl_costsTo.l0 k a1 y209 (y209.length : Int) 0 a0_0 a0_1 l0_2 a0_3 a0_4 a0_5 a0_6)) else (none)) else (none)
theorem impl_costsTo.mono_l : ∀ k, (∀ y0 y1 y2 y3 y4 y5 y6 y7 y8 y9 y10, LeO (impl_costsTo.l0 k y0 y1 y2 y3 y4 y5 y6 y7 y8 y9 y10) (impl_costsTo.l0 (k + 1) y0 y1 y2 y3 y4 y5 y6 y7 y8 y9 y10)) ∧ (∀ y0 y1 y2 y3 y4 y5 y6 y7 y8 y9 y10, LeO (impl_costsTo.l1 k y0 y1 y2 y3 y4 y5 y6 y7 y8 y9 y10) (impl_costsTo.l1 (k + 1) y0 y1 y2 y3 y4 y5 y6 y7 y8 y9 y10)) ∧ (∀ y0 y1 y2 y3 y4 y5 y6 y7 y8 y9, LeO (impl_costsTo.l2 k y0 y1 y2 y3 y4 y5 y6 y7 y8 y9) (impl_costsTo.l2 (k + 1) y0 y1 y2 y3 y4 y5 y6 y7 y8 y9)) ∧ (∀ y0 y1 y2 y3 y4 y5 y6 y7 y8 y9 y10 y11 y12, LeO (impl_costsTo.l3 k y0 y1 y2 y3 y4 y5 y6 y7 y8 y9 y10 y11 y12) (impl_costsTo.l3 (k + 1) y0 y1 y2 y3 y4 y5 y6 y7 y8 y9 y10 y11 y12)) ∧ (∀ y0 y1 y2 y3 y4 y5 y6 y7 y8 y9 y10 y11 y12 y13 y14, LeO (impl_costsTo.l4 k y0 y1 y2 y3 y4 y5 y6 y7 y8 y9 y10 y11 y12 y13 y14) (impl_costsTo.l4 (k + 1) y0 y1 y2 y3 y4 y5 y6 y7 y8 y9 y10 y11 y12 y13 y14)) ∧ (∀ y0 y1 y2 y3 y4 y5 y6 y7 y8 y9 y10 y11 y12 y13 y14 y15 y16, LeO (impl_costsTo.l5 k y0 y1 y2 y3 y4 y5 y6 y7 y8 y9 y10 y11 y12 y13 y14 y15 y16) (impl_costsTo.l5 (k + 1) y0 y1 y2 y3 y4 y5 y6 y7 y8 y9 y10 y11 y12 y13 y14 y15 y16))
 | 0 => ⟨fun _ _ _ _ _ _ _ _ _ _ _ r h => by simp [impl_costsTo.l0] at h, fun _ _ _ _ _ _ _ _ _ _ _ r h => by simp [impl_costsTo.l1] at h, fun _ _ _ _ _ _ _ _ _ _ r h => by simp [impl_costsTo.l2] at h, fun _ _ _ _ _ _ _ _ _ _ _ _ _ r h => by simp [impl_costsTo.l3] at h, fun _ _ _ _ _ _ _ _ _ _ _ _ _ _ _ r h => by simp [impl_costsTo.l4] at h, fun _ _ _ _ _ _ _ _ _ _ _ _ _ _ _ _ _ r h => by simp [impl_costsTo.l5] at h⟩
 | k + 1 => by
  obtain ⟨ih0, ih1, ih2, ih3, ih4, ih5⟩ := impl_costsTo.mono_l k
  refine ⟨?_, ?_, ?_, ?_, ?_, ?_⟩
  ·intro y0 y1 y2 y3 y4 y5 y6 y7 y8 y9 y10
   unfold impl_costsTo.l0
   repeat' first
   | (with_reducible exact ih0 _ _ _ _ _ _ _ _ _ _ _)
   | (with_reducible exact ih1 _ _ _ _ _ _ _ _ _ _ _)
   | (with_reducible exact ih2 _ _ _ _ _ _ _ _ _ _)
   | (with_reducible exact ih3 _ _ _ _ _ _ _ _ _ _ _ _ _)
   | (with_reducible exact ih4 _ _ _ _ _ _ _ _ _ _ _ _ _ _ _)
   | (with_reducible exact ih5 _ _ _ _ _ _ _ _ _ _ _ _ _ _ _ _ _)
   | (with_reducible exact LeO.refl _)
   | (with_reducible exact LeO.none _)
   | (with_reducible refine LeO.ite ?_ ?_)
   | (with_reducible refine LeO.bind ?_ (fun _ => ?_))
   | exact ih0 _ _ _ _ _ _ _ _ _ _ _
   | exact ih1 _ _ _ _ _ _ _ _ _ _ _
   | exact ih2 _ _ _ _ _ _ _ _ _ _
   | exact ih3 _ _ _ _ _ _ _ _ _ _ _ _ _
   | exact ih4 _ _ _ _ _ _ _ _ _ _ _ _ _ _ _
   | exact ih5 _ _ _ _ _ _ _ _ _ _ _ _ _ _ _ _ _
   | exact LeO.none _
   | refine LeO.ite ?_ ?_
   | refine LeO.bind ?_ (fun _ => ?_)
  ·intro y0 y1 y2 y3 y4 y5 y6 y7 y8 y9 y10
   unfold impl_costsTo.l1
   repeat' first
   | (with_reducible exact ih0 _ _ _ _ _ _ _ _ _ _ _)
   | (with_reducible exact ih1 _ _ _ _ _ _ _ _ _ _ _)
   | (with_reducible exact ih2 _ _ _ _ _ _ _ _ _ _)
   | (with_reducible exact ih3 _ _ _ _ _ _ _ _ _ _ _ _ _)
   | (with_reducible exact ih4 _ _ _ _ _ _ _ _ _ _ _ _ _ _ _)
   | (with_reducible exact ih5 _ _ _ _ _ _ _ _ _ _ _ _ _ _ _ _ _)
   | (with_reducible exact LeO.refl _)
   | (with_reducible exact LeO.none _)
   | (with_reducible refine LeO.ite ?_ ?_)
   | (with_reducible refine LeO.bind ?_ (fun _ => ?_))
   | exact ih0 _ _ _ _ _ _ _ _ _ _ _
   | exact ih1 _ _ _ _ _ _ _ _ _ _ _
   | exact ih2 _ _ _ _ _ _ _ _ _ _
   | exact ih3 _ _ _ _ _ _ _ _ _ _ _ _ _
   | exact ih4 _ _ _ _ _ _ _ _ _ _ _ _ _ _ _
   | exact ih5 _ _ _ _ _ _ _ _ _ _ _ _ _ _ _ _ _
   | exact LeO.none _
   | refine LeO.ite ?_ ?_
   | refine LeO.bind ?_ (fun _ => ?_)
  ·intro y0 y1 y2 y3 y4 y5 y6 y7 y8 y9
   unfold impl_costsTo.l2
   repeat' first
   | (with_reducible exact ih0 _ _ _ _ _ _ _ _ _ _ _)
   | (with_reducible exact ih1 _ _ _ _ _ _ _ _ _ _ _)
   | (with_reducible exact ih2 _ _ _ _ _ _ _ _ _ _)
   | (with_reducible exact ih3 _ _ _ _ _ _ _ _ _ _ _ _ _)
   | (with_reducible exact ih4 _ _ _ _ _ _ _ _ _ _ _ _ _ _ _)
   | (with_reducible exact ih5 _ _ _ _ _ _ _ _ _ _ _ _ _ _ _ _ _)
   | (with_reducible exact LeO.refl _)
   | (with_reducible exact LeO.none _)
   | (with_reducible refine LeO.ite ?_ ?_)
   | (with_reducible refine LeO.bind ?_ (fun _ => ?_))
   | exact ih0 _ _ _ _ _ _ _ _ _ _ _
   | exact ih1 _ _ _ _ _ _ _ _ _ _ _
   | exact ih2 _ _ _ _ _ _ _ _ _ _
   | exact ih3 _ _ _ _ _ _ _ _ _ _ _ _ _
   | exact ih4 _ _ _ _ _ _ _ _ _ _ _ _ _ _ _
   | exact ih5 _ _ _ _ _ _ _ _ _ _ _ _ _ _ _ _ _
   | exact LeO.none _
   | refine LeO.ite ?_ ?_
   | refine LeO.bind ?_ (fun _ => ?_)
  ·intro y0 y1 y2 y3 y4 y5 y6 y7 y8 y9 y10 y11 y12
   unfold impl_costsTo.l3
   repeat' first
   | (with_reducible exact ih0 _ _ _ _ _ _ _ _ _ _ _)
   | (with_reducible exact ih1 _ _ _ _ _ _ _ _ _ _ _)
   | (with_reducible exact ih2 _ _ _ _ _ _ _ _ _ _)
   | (with_reducible exact ih3 _ _ _ _ _ _ _ _ _ _ _ _ _)
   | (with_reducible exact ih4 _ _ _ _ _ _ _ _ _ _ _ _ _ _ _)
   | (with_reducible exact ih5 _ _ _ _ _ _ _ _ _ _ _ _ _ _ _ _ _)
   | (with_reducible exact LeO.refl _)
   | (with_reducible exact LeO.none _)
   | (with_reducible refine LeO.ite ?_ ?_)
   | (with_reducible refine LeO.bind ?_ (fun _ => ?_))
   | exact ih0 _ _ _ _ _ _ _ _ _ _ _
   | exact ih1 _ _ _ _ _ _ _ _ _ _ _
   | exact ih2 _ _ _ _ _ _ _ _ _ _
   | exact ih3 _ _ _ _ _ _ _ _ _ _ _ _ _
   | exact ih4 _ _ _ _ _ _ _ _ _ _ _ _ _ _ _
   | exact ih5 _ _ _ _ _ _ _ _ _ _ _ _ _ _ _ _ _
   | exact LeO.none _
   | refine LeO.ite ?_ ?_
   | refine LeO.bind ?_ (fun _ => ?_)
  ·intro y0 y1 y2 y3 y4 y5 y6 y7 y8 y9 y10 y11 y12 y13 y14
   unfold impl_costsTo.l4
   repeat' first
   | (with_reducible exact ih0 _ _ _ _ _ _ _ _ _ _ _)
   | (with_reducible exact ih1 _ _ _ _ _ _ _ _ _ _ _)
   | (with_reducible exact ih2 _ _ _ _ _ _ _ _ _ _)
   | (with_reducible exact ih3 _ _ _ _ _ _ _ _ _ _ _ _ _)
   | (with_reducible exact ih4 _ _ _ _ _ _ _ _ _ _ _ _ _ _ _)
   | (with_reducible exact ih5 _ _ _ _ _ _ _ _ _ _ _ _ _ _ _ _ _)
   | (with_reducible exact LeO.refl _)
   | (with_reducible exact LeO.none _)
   | (with_reducible refine LeO.ite ?_ ?_)
   | (with_reducible refine LeO.bind ?_ (fun _ => ?_))
   | exact ih0 _ _ _ _ _ _ _ _ _ _ _
   | exact ih1 _ _ _ _ _ _ _ _ _ _ _
   | exact ih2 _ _ _ _ _ _ _ _ _ _
   | exact ih3 _ _ _ _ _ _ _ _ _ _ _ _ _
   | exact ih4 _ _ _ _ _ _ _ _ _ _ _ _ _ _ _
   | exact ih5 _ _ _ _ _ _ _ _ _ _ _ _ _ _ _ _ _
   | exact LeO.none _
   | refine LeO.ite ?_ ?_
   | refine LeO.bind ?_ (fun _ => ?_)
  ·intro y0 y1 y2 y3 y4 y5 y6 y7 y8 y9 y10 y11 y12 y13 y14 y15 y16
   unfold impl_costsTo.l5
   repeat' first
   | (with_reducible exact ih0 _ _ _ _ _ _ _ _ _ _ _)
   | (with_reducible exact ih1 _ _ _ _ _ _ _ _ _ _ _)
   | (with_reducible exact ih2 _ _ _ _ _ _ _ _ _ _)
   | (with_reducible exact ih3 _ _ _ _ _ _ _ _ _ _ _ _ _)
   | (with_reducible exact ih4 _ _ _ _ _ _ _ _ _ _ _ _ _ _ _)
   | (with_reducible exact ih5 _ _ _ _ _ _ _ _ _ _ _ _ _ _ _ _ _)
   | (with_reducible exact LeO.refl _)
   | (with_reducible exact LeO.none _)
   | (with_reducible refine LeO.ite ?_ ?_)
   | (with_reducible refine LeO.bind ?_ (fun _ => ?_))
   | exact ih0 _ _ _ _ _ _ _ _ _ _ _
   | exact ih1 _ _ _ _ _ _ _ _ _ _ _
   | exact ih2 _ _ _ _ _ _ _ _ _ _
   | exact ih3 _ _ _ _ _ _ _ _ _ _ _ _ _
   | exact ih4 _ _ _ _ _ _ _ _ _ _ _ _ _ _ _
   | exact ih5 _ _ _ _ _ _ _ _ _ _ _ _ _ _ _ _ _
   | exact LeO.none _
   | refine LeO.ite ?_ ?_
   | refine LeO.bind ?_ (fun _ => ?_)
theorem impl_costsTo.mono : ∀ a0 a1 a2 a3 a4 a5 a6 a7 k, LeO (impl_costsTo.f k a0 a1 a2 a3 a4 a5 a6 a7) (impl_costsTo.f (k + 1) a0 a1 a2 a3 a4 a5 a6 a7) := by
 intro a0 a1 a2 a3 a4 a5 a6 a7 k
 obtain ⟨ih0, ih1, ih2, ih3, ih4, ih5⟩ := impl_costsTo.mono_l k
 unfold impl_costsTo.f
 repeat' first
   | (with_reducible exact ih0 _ _ _ _ _ _ _ _ _ _ _)
   | (with_reducible exact ih1 _ _ _ _ _ _ _ _ _ _ _)
   | (with_reducible exact ih2 _ _ _ _ _ _ _ _ _ _)
   | (with_reducible exact ih3 _ _ _ _ _ _ _ _ _ _ _ _ _)
   | (with_reducible exact ih4 _ _ _ _ _ _ _ _ _ _ _ _ _ _ _)
   | (with_reducible exact ih5 _ _ _ _ _ _ _ _ _ _ _ _ _ _ _ _ _)
   | (with_reducible exact LeO.refl _)
   | (with_reducible exact LeO.none _)
   | (with_reducible refine LeO.ite ?_ ?_)
   | (with_reducible refine LeO.bind ?_ (fun _ => ?_))
   | exact ih0 _ _ _ _ _ _ _ _ _ _ _
   | exact ih1 _ _ _ _ _ _ _ _ _ _ _
   | exact ih2 _ _ _ _ _ _ _ _ _ _
   | exact ih3 _ _ _ _ _ _ _ _ _ _ _ _ _
   | exact ih4 _ _ _ _ _ _ _ _ _ _ _ _ _ _ _
   | exact ih5 _ _ _ _ _ _ _ _ _ _ _ _ _ _ _ _ _
   | exact LeO.none _
   | refine LeO.ite ?_ ?_
   | refine LeO.bind ?_ (fun _ => ?_)
def impl_costsTo.T28 : Bool × List (List Nat × List Nat) := (true, [([], []), ([], []), ([], []), ([], []), ([3], [3]), ([2, 4], [2, 4]), ([5], [5]), ([], []), ([], []), ([], []), ([], []), ([1, 6, 7, 8, 9, 10], [1, 6, 7, 8, 9, 10]), ([0, 11], [0, 11]), ([12, 11, 0, 1, 2, 3, 4, 5, 6, 7, 8, 9, 10, 11, 12], [0, 12])])
def impl_costsTo.B28 : List Nat := [0, 0, 0, 0, 8, 28, 60, 0, 0, 0, 0, 2046, 4095, 8191]
theorem impl_costsTo.tab28 : rtab .any (opsOf Tryd.f58 28) = impl_costsTo.T28 := by kernel_rfl
theorem impl_costsTo.bits28 : waitsOk impl_costsTo.T28.2 impl_costsTo.B28 = true := by kernel_rfl
set_option maxHeartbeats 8000000 in
set_option maxRecDepth 100000 in
theorem impl_costsTo.calls (k : Nat) (a0_0 : Int) (a0_1 : Int) (A0_2 : Option Addr) (c0_2 : Nat) (l0_2 : List Int) (a0_3 : Int) (a0_4 : Int) (a0_5 : Int) (a0_6 : Int) (a1 : Int) (r : List (List Int)) (w : World) (hr0_2 : Kd.C (Kd.int .i64) w A0_2 l0_2.length l0_2) (hc0_2 : l0_2.length ≤ c0_2) (h : impl_costsTo.f k a0_0 a0_1 l0_2 a0_3 a0_4 a0_5 a0_6 a1 = some r) (hG : Laid w) :
  Calls Tryd.prog 58 #[.agg #[.int .i64 a0_0, .int .i64 a0_1, .slice A0_2 l0_2.length c0_2, .int .i64 a0_3, .int .i64 a0_4, .int .i64 a0_5, .int .i64 a0_6], .int .i64 a1] w fun e w' => ∃ v0_ : Value, e = .returned (v0_) ∧ Kd.N (Kd.slice 3 (Kd.int .i64)) 22 w' w.heap.size (fun k_ => (w.heap.size ≤ k_)) v0_ r ∧ Below w.heap.size w w' := by
 have hu28 := Tryd.underlying28
 have HR0_2 := Aside0.mk hr0_2
 have HC0_2 := Aside0.mk hc0_2
 clear hr0_2 hc0_2
 have HB := am (Below.refl w.heap.size w)
 have HG := Aside0.mk hG
 clear hG
 have H : (if 0 ≤ (wrap64 ((l0_2.length : Int) * 5)) then (if (wrap64 ((l0_2.length : Int) * 5) : Int).toNat ≤ 35184372088832 then ((some (List.replicate (wrap64 ((l0_2.length : Int) * 5) : Int).toNat 0 : List Int)).bind fun y209 => (impl_costsTo.l0 k a1 y209 (y209.length : Int) 0 a0_0 a0_1 l0_2 a0_3 a0_4 a0_5 a0_6)) else (none)) else (none)) = some r := h
 clear h
 obtain ⟨ji3, hji3⟩ : ∃ j_ : Int, (wrap64 ((l0_2.length : Int) * 5)) = j_ := ⟨_, rfl⟩
 replace H : (if 0 ≤ (ji3) then (if (ji3 : Int).toNat ≤ 35184372088832 then ((some (List.replicate (ji3 : Int).toNat 0 : List Int)).bind fun y209 => (impl_costsTo.l0 k a1 y209 (y209.length : Int) 0 a0_0 a0_1 l0_2 a0_3 a0_4 a0_5 a0_6)) else (none)) else (none)) = some r := by first | (rw [hji3] at H; exact H) | (simp only [hji3] at H ⊢; exact H)
 have hji3w : (IntKind.i64.wrap ((l0_2.length : Int) * 5)) = ji3 := (i64_w _).trans hji3
 by_cases c4 : 0 ≤ (ji3)
 ·rw [if_pos c4] at H
  have c4b0 := eq_true c4
  have c4b1 : decide (0 ≤ (ji3)) = true := decide_eq_true c4
  clear c4
  by_cases c5 : (ji3 : Int).toNat ≤ 35184372088832
  ·rw [if_pos c5] at H
   have c5b0 := eq_true c5
   have c5b1 : decide ((ji3 : Int).toNat ≤ 35184372088832) = true := decide_eq_true c5
   clear c5
   obtain ⟨y209, hy209⟩ : ∃ y_ : List Int, y_ = (List.replicate (ji3 : Int).toNat 0) := ⟨_, rfl⟩
   replace H : (impl_costsTo.l0 k a1 y209 (y209.length : Int) 0 a0_0 a0_1 l0_2 a0_3 a0_4 a0_5 a0_6) = some r := by first | (rw [hy209]; with_reducible exact H) | (have H2_ := (Option.bind_some _ _).symm.trans H; rw [hy209]; with_reducible exact H2_) | (have H2_ := (Option.bind_some _ _).symm.trans H; with_reducible exact H2_) | with_reducible exact H | (rw [hy209]; exact H) | exact H
   have Ny209 := Aside0.mk hy209
   clear hy209
   have H' := Aside0.mk H
   clear H
   go_enter Tryd.func58, Tryd.ntmps58
   go_wp2_with (first | ((with_reducible refine gate_dst (N := 2) rfl ?_); refine box_event ?hg (N := 2) ?hd (cs := #[.int .i64 a0_0, .int .i64 a0_1, .slice A0_2 l0_2.length c0_2, .int .i64 a0_3, .int .i64 a0_4, .int .i64 a0_5, .int .i64 a0_6]) (t := 28) ?hr ?_; (case hd => rfl); (case hg => rfl); (case hr => exact ze'); intro gb208 hg w6 hbox hb; have n0_ := am (below_step za' hb); have n1_ := am (hbox); have n2_ := am ((by rw [hg]; exact (below_size za') : w.heap.size ≤ gb208)); have n3_ := am ((by rw [hg]; exact (below_size za') : w.heap.size ≤ gb208)); clear HB; have HB := n0_; have BK208 := n1_; have GW208 := n2_; have GE208 := n3_; clear n0_ n1_ n2_ n3_; clear hb hbox hg; have hcz7_0 : w6.cell? ⟨gb208, 0, none⟩ = some (.int .i64 a0_0) := (blk_cell BK208.out 0).trans rfl; have hcz7_1 : w6.cell? ⟨gb208, 1, none⟩ = some (.int .i64 a0_1) := (blk_cell BK208.out 1).trans rfl; have hcz7_2 : w6.cell? ⟨gb208, 2, none⟩ = some (.slice A0_2 l0_2.length c0_2) := (blk_cell BK208.out 2).trans rfl; have hcz7_3 : w6.cell? ⟨gb208, 3, none⟩ = some (.int .i64 a0_3) := (blk_cell BK208.out 3).trans rfl; have hcz7_4 : w6.cell? ⟨gb208, 4, none⟩ = some (.int .i64 a0_4) := (blk_cell BK208.out 4).trans rfl; have hcz7_5 : w6.cell? ⟨gb208, 5, none⟩ = some (.int .i64 a0_5) := (blk_cell BK208.out 5).trans rfl; have hcz7_6 : w6.cell? ⟨gb208, 6, none⟩ = some (.int .i64 a0_6) := (blk_cell BK208.out 6).trans rfl; have hfz7_0 := blk_frozen BK208.out 0; have hfz7_1 := blk_frozen BK208.out 1; have hfz7_2 := blk_frozen BK208.out 2; have hfz7_3 := blk_frozen BK208.out 3; have hfz7_4 := blk_frozen BK208.out 4; have hfz7_5 := blk_frozen BK208.out 5; have hfz7_6 := blk_frozen BK208.out 6) | ((with_reducible refine gate_dst (N := 21) rfl ?_); refine Kd.R_make (Kd.int .i64) _ 3 rfl (N := 21) rfl 22 _ _ rfl ji3 rfl rfl Tryd.underlying22 (.int .i64 0) 8 info3 rfl (by decide) (by omega) 0 (ok := fun _ => True) (okp := fun _ => True) rfl (fun _ hk => hk) trivial odt (Nat.le_trans (Nat.mul_le_mul_right _ (odt : ji3.toNat ≤ 35184372088832)) (by omega)) (Below.refl _ _) (Nat.le_refl _) ?_; intro v210 w8 ho9 hb hg_ hnew_; clear hg_ hnew_; (first | rw [← Ny209.out] at ho9 | (simp only [Int.reduceToNat] at ho9; rw [← Ny209.out] at ho9)); have n0_ := am (Kd.R_lower (Kd.R_newM (M := fun k_ => (w.heap.size ≤ k_)) ho9 (below_size zi') (fun k_ h_ => h_)) (below_size zi')); have n1_ := am (blk_below (g := gb208) (o := .cells #[.int .i64 a0_0, .int .i64 a0_1, .slice A0_2 l0_2.length c0_2, .int .i64 a0_3, .int .i64 a0_4, .int .i64 a0_5, .int .i64 a0_6] 28 (0, 0)) zb1' hb); have n2_ := am (below_step zi' hb); clear BK208; clear HB; have HO211 := n0_; have BK208 := n1_; have HB := n2_; clear n0_ n1_ n2_; clear hb ho9; obtain ⟨Ao10, co10, eo10⟩ := Kd.R_slice HO211.out; subst eo10))
   go_loopg [24] k (fun kq v24 w' => ∃ (x5_1 : List Int) (x24_1 : Int), v24 = .int .i64 x24_1 ∧ Aside0 (impl_costsTo.l0 kq a1 x5_1 (y209.length : Int) x24_1 a0_0 a0_1 l0_2 a0_3 a0_4 a0_5 a0_6 = some r) ∧ Aside0 (kq ≤ k) ∧ Aside0 (Kd.R (Kd.int .i64) 3 w' w.heap.size (fun k_ => (w.heap.size ≤ k_)) (.slice Ao10 y209.length co10) x5_1) ∧ Aside0 (w'.heap[gb208]? = some (.cells #[.int .i64 a0_0, .int .i64 a0_1, (.slice A0_2 l0_2.length c0_2), .int .i64 a0_3, .int .i64 a0_4, .int .i64 a0_5, .int .i64 a0_6] 28 (0, 0))) ∧ Aside0 (Below w.heap.size w w'))
   case atStart => exact ⟨(y209), (0), zd', H', ⟨Nat.le_refl _⟩, ⟨by (with_reducible repeat (first | apply Kd.R_alloc | apply Kd.R_drewN | apply Kd.R_drew)); exact Kd.R_mono HO211.out (fun _ hk => hk.1)⟩, ⟨zb1'⟩, ⟨zi'⟩⟩
   case round =>
    clear H'
    try clear p2
    try clear c4
    try clear c4b0
    try clear c4b1
    try clear c5
    try clear c5b0
    try clear c5b1
    try clear p6
    try clear hcz7_0
    try clear hcz7_1
    try clear hcz7_2
    try clear hcz7_3
    try clear hcz7_4
    try clear hcz7_5
    try clear hcz7_6
    try clear hfz7_0
    try clear hfz7_1
    try clear hfz7_2
    try clear hfz7_3
    try clear hfz7_4
    try clear hfz7_5
    try clear hfz7_6
    obtain ⟨x5_1, x24_1, rfl, HA, HK1, HO_5, BK208, HB⟩ := hrel
    have hl5_1 := (Kd.R_reads' HO_5.out).1
    rw [hl5_1] at HO_5
    (try simp only [hl5_1])
    (try simp only [hl5_1] at BK208)
    cases gk with
    | zero => exact absurd HA.out (by simp [impl_costsTo.l0])
    | succ k1 =>
     have H := HA.out
     clear HA
     simp only [impl_costsTo.l0] at H
     by_cases c11 : x24_1 < (y209.length : Int)
     ·rw [if_pos c11] at H
      have c11b0 : decide (x24_1 < (y209.length : Int)) = true := decide_eq_true c11
      clear c11
      (try rw [hl5_1] at c11b0)
      by_cases c12 : 0 ≤ x24_1
      ·rw [if_pos c12] at H
       have c12b0 : decide (0 ≤ x24_1) = true := decide_eq_true c12
       clear c12
       by_cases c13 : x24_1 < (x5_1.length : Int)
       ·rw [if_pos c13] at H
        have c13b0 : decide (x24_1 < (x5_1.length : Int)) = true := decide_eq_true c13
        clear c13
        obtain ⟨y212, hy212⟩ : ∃ y_ : List Int, y_ = (x5_1.set (x24_1 : Int).toNat 1099511627776) := ⟨_, rfl⟩
        replace H : (impl_costsTo.l0 k1 a1 y212 (y209.length : Int) (wrap64 (x24_1 + 1)) a0_0 a0_1 l0_2 a0_3 a0_4 a0_5 a0_6) = some r := by first | (rw [hy212]; with_reducible exact H) | (have H2_ := (Option.bind_some _ _).symm.trans H; rw [hy212]; with_reducible exact H2_) | (have H2_ := (Option.bind_some _ _).symm.trans H; with_reducible exact H2_) | with_reducible exact H | (rw [hy212]; exact H) | exact H
        have Ny212 := Aside0.mk hy212
        clear hy212
        have H' := Aside0.mk H
        clear H
        have p14 : 0 ≤ (x24_1 : Int) := odt
        have q14 : (x24_1 : Int) < ((x5_1.length : Int) : Int) := odt
        obtain ⟨go14, co14, eo14, gb14, gl14, cl14, HG14⟩ := Kd.R_form HO_5.out (by omega)
        (first | cases eo14 | (injection eo14 with ea_ en_ ec_; (first | subst ea_ | (injection ea_ with ea_; subst ea_)); subst ec_; clear en_))
        have GB14 := Aside0.mk gb14
        have GG14 := Aside0.mk HG14
        clear gb14 gl14 HG14
        obtain ⟨hx14_0, hf14_0⟩ := Kd.R_celln 0 HO_5.out (x24_1 : Int) p14 q14
        replace p14 := eq_true p14
        replace q14 := eq_true q14
        have HP15 := Kd.R_putg HO_5.out (x24_1 : Int) 1099511627776
        go_wp2_with (first | ((with_reducible refine gate_store (t := 3) (p := 29) rfl ?_); refine store_event (t := 3) (p := 29) (v := ?vo_w16) (w1 := (wr.setCell ⟨go14, (x24_1 : Int).toNat, none⟩ (.int .i64 1099511627776))) ?hg ?ho ?hn ?hr ?_; (case ho => rfl); (case hg => rfl); (case hn => rfl); (case hr => exact ze'); intro w16 hw; have hg : wr.grownBy w16 (some go14) := (by rw [hw]; exact HP15.2); have hp_ : Kd.R (Kd.int .i64) 3 w16 w.heap.size (fun k_ => (w.heap.size ≤ k_)) (.slice (some ⟨go14, 0, none⟩) x5_1.length co10) y212 := (by rw [hw, Ny212.out]; exact HP15.1); clear HP15; have n0_ := am (hp_); have n1_ := am (blk_grown (g := gb208) (o := .cells #[.int .i64 a0_0, .int .i64 a0_1, .slice A0_2 l0_2.length c0_2, .int .i64 a0_3, .int .i64 a0_4, .int .i64 a0_5, .int .i64 a0_6] 28 (0, 0)) zb1' hg (Kd.R_ne HO_5.out BK208.out (by decide))); have n2_ := am ((by rw [hw]; exact below_set (HB.out) GB14.out : Below w.heap.size w w16)); clear HO_5; clear BK208; clear HB; have HO_5 := n0_; have BK208 := n1_; have HB := n2_; clear n0_ n1_ n2_; clear hg hw hp_))
        (try simp only [← hl5_1])
        go_roundg k1
        case measure => have := HK1.out; omega
        case rel => exact ⟨(y212), (wrap64 (x24_1 + 1)), zd', H', ⟨zf3'⟩, ⟨zh4'⟩, ⟨by (try simp only [hl5_1]); (with_reducible repeat (first | apply kn | apply kd | apply ka)); exact BK208.out⟩, ⟨zi'⟩⟩
       ·rw [if_neg c13] at H
        exact absurd H (by simp)
      ·rw [if_neg c12] at H
       exact absurd H (by simp)
     ·rw [if_neg c11] at H
      rw [hl5_1] at c11
      rw [hl5_1] at H
      have c11b0 : decide (x24_1 < (x5_1.length : Int)) = false := decide_eq_false c11
      clear c11
      have H' := Aside0.mk H
      clear H
      go_wp2
      go_loopg [7] k1 (fun kq v7 w' => ∃ (x5_2 : List Int) (x7_2 : Int), v7 = .int .i64 x7_2 ∧ Aside0 (impl_costsTo.l1 kq a1 x5_2 x7_2 (x5_1.length : Int) a0_0 a0_1 l0_2 a0_3 a0_4 a0_5 a0_6 = some r) ∧ Aside0 (kq ≤ k1) ∧ Aside0 (Kd.R (Kd.int .i64) 3 w' w.heap.size (fun k_ => (w.heap.size ≤ k_)) (.slice Ao10 x5_1.length co10) x5_2) ∧ Aside0 (w'.heap[gb208]? = some (.cells #[.int .i64 a0_0, .int .i64 a0_1, (.slice A0_2 l0_2.length c0_2), .int .i64 a0_3, .int .i64 a0_4, .int .i64 a0_5, .int .i64 a0_6] 28 (0, 0))) ∧ Aside0 (Below w.heap.size w w'))
      case atStart => exact ⟨(x5_1), (0), zd', H', ⟨Nat.le_refl _⟩, ⟨zh4'⟩, ⟨by (try simp only [hl5_1]); (with_reducible repeat (first | apply kn | apply kd | apply ka)); exact BK208.out⟩, ⟨zi'⟩⟩
      case round =>
       clear H'
       try clear c1
       try clear p1
       try clear q1
       try clear hx1
       try clear p2
       try clear c4
       try clear c4b0
       try clear c4b1
       try clear c5
       try clear c5b0
       try clear c5b1
       try clear p6
       try clear c11
       try clear c11b0
       try clear c12
       try clear c12b0
       try clear c13
       try clear c13b0
       try clear p14
       try clear q14
       try clear hx14
       try clear hf14
       try clear hcz7_0
       try clear hcz7_1
       try clear hcz7_2
       try clear hcz7_3
       try clear hcz7_4
       try clear hcz7_5
       try clear hcz7_6
       try clear hfz7_0
       try clear hfz7_1
       try clear hfz7_2
       try clear hfz7_3
       try clear hfz7_4
       try clear hfz7_5
       try clear hfz7_6
       try clear hx14_0
       try clear p14
       try clear p2
       try clear p6
       try clear q14
       obtain ⟨x5_2, x7_2, rfl, HA, HK2, HO_5, BK208, HB⟩ := hrel
       have hl5_2 := (Kd.R_reads' HO_5.out).1
       rw [hl5_2] at HO_5
       (try simp only [hl5_2])
       (try simp only [hl5_2] at BK208)
       cases gk with
       | zero => exact absurd HA.out (by simp [impl_costsTo.l1])
       | succ k2 =>
        have H := HA.out
        clear HA
        simp only [impl_costsTo.l1] at H
        by_cases c17 : x7_2 < 5
        ·rw [if_pos c17] at H
         have c17b0 : decide (x7_2 < 5) = true := decide_eq_true c17
         clear c17
         obtain ⟨ji18, hji18⟩ : ∃ j_ : Int, (wrap64 ((wrap64 (a1 * 5)) + x7_2)) = j_ := ⟨_, rfl⟩
         replace H : (if 0 ≤ (ji18) then (if (ji18) < (x5_2.length : Int) then (impl_costsTo.l1 k2 a1 (x5_2.set ((ji18) : Int).toNat 0) (wrap64 (x7_2 + 1)) (x5_1.length : Int) a0_0 a0_1 l0_2 a0_3 a0_4 a0_5 a0_6) else (none)) else (none)) = some r := by first | (rw [hji18] at H; exact H) | (simp only [hji18] at H ⊢; exact H)
         have hji18w : (IntKind.i64.wrap ((wrap64 (a1 * 5)) + x7_2)) = ji18 := (i64_w _).trans hji18
         by_cases c19 : 0 ≤ (ji18)
         ·rw [if_pos c19] at H
          have c19b0 : decide (0 ≤ (ji18)) = true := decide_eq_true c19
          clear c19
          by_cases c20 : (ji18) < (x5_2.length : Int)
          ·rw [if_pos c20] at H
           have c20b0 : decide ((ji18) < (x5_2.length : Int)) = true := decide_eq_true c20
           clear c20
           obtain ⟨y213, hy213⟩ : ∃ y_ : List Int, y_ = (x5_2.set ((ji18) : Int).toNat 0) := ⟨_, rfl⟩
           replace H : (impl_costsTo.l1 k2 a1 y213 (wrap64 (x7_2 + 1)) (x5_1.length : Int) a0_0 a0_1 l0_2 a0_3 a0_4 a0_5 a0_6) = some r := by first | (rw [hy213]; with_reducible exact H) | (have H2_ := (Option.bind_some _ _).symm.trans H; rw [hy213]; with_reducible exact H2_) | (have H2_ := (Option.bind_some _ _).symm.trans H; with_reducible exact H2_) | with_reducible exact H | (rw [hy213]; exact H) | exact H
           have Ny213 := Aside0.mk hy213
           clear hy213
           have H' := Aside0.mk H
           clear H
           have p21 : 0 ≤ ((ji18) : Int) := odt
           have q21 : ((ji18) : Int) < ((x5_2.length : Int) : Int) := odt
           obtain ⟨go21, co21, eo21, gb21, gl21, cl21, HG21⟩ := Kd.R_form HO_5.out (by omega)
           (first | cases eo21 | (injection eo21 with ea_ en_ ec_; (first | subst ea_ | (injection ea_ with ea_; subst ea_)); subst ec_; clear en_))
           have GB21 := Aside0.mk gb21
           have GG21 := Aside0.mk HG21
           clear gb21 gl21 HG21
           obtain ⟨hx21_0, hf21_0⟩ := Kd.R_celln 0 HO_5.out ((ji18) : Int) p21 q21
           replace p21 := eq_true p21
           replace q21 := eq_true q21
           have HP22 := Kd.R_putg HO_5.out ((ji18) : Int) 0
           go_wp2_with (first | ((with_reducible refine gate_store (t := 3) (p := 40) rfl ?_); refine store_event (t := 3) (p := 40) (v := ?vo_w23) (w1 := (wr.setCell ⟨go21, ((ji18) : Int).toNat, none⟩ (.int .i64 0))) ?hg ?ho ?hn ?hr ?_; (case ho => rfl); (case hg => rfl); (case hn => rfl); (case hr => exact ze'); intro w23 hw; have hg : wr.grownBy w23 (some go21) := (by rw [hw]; exact HP22.2); have hp_ : Kd.R (Kd.int .i64) 3 w23 w.heap.size (fun k_ => (w.heap.size ≤ k_)) (.slice (some ⟨go21, 0, none⟩) x5_2.length co10) y213 := (by rw [hw, Ny213.out]; exact HP22.1); clear HP22; have n0_ := am (hp_); have n1_ := am (blk_grown (g := gb208) (o := .cells #[.int .i64 a0_0, .int .i64 a0_1, .slice A0_2 l0_2.length c0_2, .int .i64 a0_3, .int .i64 a0_4, .int .i64 a0_5, .int .i64 a0_6] 28 (0, 0)) zb1' hg (Kd.R_ne HO_5.out BK208.out (by decide))); have n2_ := am ((by rw [hw]; exact below_set (HB.out) GB21.out : Below w.heap.size w w23)); clear HO_5; clear BK208; clear HB; have HO_5 := n0_; have BK208 := n1_; have HB := n2_; clear n0_ n1_ n2_; clear hg hw hp_))
           (try simp only [← hl5_2])
           go_roundg k2
           case measure => have := HK1.out; have := HK2.out; omega
           case rel => exact ⟨(y213), (wrap64 (x7_2 + 1)), zd', H', ⟨zh3'⟩, ⟨by (try simp only [hl5_1]); (try simp only [hl5_2]); (with_reducible repeat (first | apply Kd.R_alloc | apply Kd.R_drewN | apply Kd.R_drew)); exact HO_5.out⟩, ⟨zv'⟩, ⟨zi'⟩⟩
          ·rw [if_neg c20] at H
           exact absurd H (by simp)
         ·rw [if_neg c19] at H
          exact absurd H (by simp)
        ·rw [if_neg c17] at H
         rw [hl5_2] at H
         have c17b0 : decide (x7_2 < 5) = false := decide_eq_false c17
         clear c17
         obtain ⟨y214, hy214⟩ : ∃ y_ : List (List Int), y_ = (([x5_2] : List (List Int))) := ⟨_, rfl⟩
         replace H : (impl_costsTo.l2 k2 y214 1 (x5_2.length : Int) a0_0 a0_1 l0_2 a0_3 a0_4 a0_5 a0_6) = some r := by first | (rw [hy214]; with_reducible exact H) | (have H2_ := (Option.bind_some _ _).symm.trans H; rw [hy214]; with_reducible exact H2_) | (have H2_ := (Option.bind_some _ _).symm.trans H; with_reducible exact H2_) | with_reducible exact H | (rw [hy214]; exact H) | exact H
         have Ny214 := Aside0.mk hy214
         clear hy214
         have H' := Aside0.mk H
         clear H
         go_wp2_with (first | ((with_reducible refine gate_dst (N := 42) rfl ?_); refine Kd.N_lit (Kd.slice 3 (Kd.int .i64)) _ 22 ?hg (N' := 42) ?hd (xs := ([x5_2] : List (List Int))) (inner := [.slice Ao10 x5_2.length co10]) (ok := (fun k_ => (w.heap.size ≤ k_) ∧ k_ ≠ gb208)) (okp := (fun k_ => (w.heap.size ≤ k_) ∧ k_ ≠ gb208)) ?hr ?hp (fun _ hk => hk) ((show ∀ k_, wr.heap.size ≤ k_ → (fun k_ => (w.heap.size ≤ k_) ∧ k_ ≠ gb208) k_ from fun k_ hk => ⟨(Nat.le_trans (below_size zi') hk), Kd.freshB (g := gb208) (o := .cells #[.int .i64 a0_0, .int .i64 a0_1, .slice A0_2 l0_2.length c0_2, .int .i64 a0_3, .int .i64 a0_4, .int .i64 a0_5, .int .i64 a0_6] 28 (0, 0)) zb1' k_ hk⟩) _ (Nat.le_refl _)) (Below.refl _ _) (Nat.le_refl _) (by simp) ?_; (case hd => rfl); (case hg => rfl); (case hr => exact ze'); (case hp => exact (Reps.one (show Kd.FK (Kd.slice 3 (Kd.int .i64)) _ _ x5_2 [.slice Ao10 x5_2.length co10] from (Kd.FK_slice_mk (Kd.R_reads' (Kd.R_mono (ok' := (fun k_ => (w.heap.size ≤ k_) ∧ k_ ≠ gb208)) (Kd.R_types (HO_5.out) BK208.out (by decide)) (fun k_ hk => ⟨hk.1, hk.2⟩))).2.1 (Kd.R_F (Kd.R_mono (ok' := (fun k_ => (w.heap.size ≤ k_) ∧ k_ ≠ gb208)) (Kd.R_types (HO_5.out) BK208.out (by decide)) (fun k_ hk => ⟨hk.1, hk.2⟩))))) (Reps.none _ _))); intro v215 w24 ho25 hb hg_ hnew_; clear hg_ hnew_; (first | rw [← Ny214.out] at ho25 | (simp only [Int.reduceToNat] at ho25; rw [← Ny214.out] at ho25)); have n0_ := am (Kd.N_lower ho25 (below_size zi')); have n1_ := am (blk_below (g := gb208) (o := .cells #[.int .i64 a0_0, .int .i64 a0_1, .slice A0_2 l0_2.length c0_2, .int .i64 a0_3, .int .i64 a0_4, .int .i64 a0_5, .int .i64 a0_6] 28 (0, 0)) zb1' hb); have n2_ := am (below_step zi' hb); clear BK208; clear HB; clear HO_5; have HO216 := n0_; have BK208 := n1_; have HB := n2_; clear n0_ n1_ n2_; clear hb ho25))
         go_loopg [8, 9] k2 (fun kq v8 v9 w' => ∃ (x8_3 : List (List Int)) (x9_3 : Int), v9 = .int .i64 x9_3 ∧ Aside0 (impl_costsTo.l2 kq x8_3 x9_3 (x5_2.length : Int) a0_0 a0_1 l0_2 a0_3 a0_4 a0_5 a0_6 = some r) ∧ Aside0 (kq ≤ k2) ∧ Aside0 (Kd.N (Kd.slice 3 (Kd.int .i64)) 22 w' w.heap.size (fun k_ => (w.heap.size ≤ k_) ∧ k_ ≠ gb208) v8 x8_3) ∧ Aside0 (w'.heap[gb208]? = some (.cells #[.int .i64 a0_0, .int .i64 a0_1, (.slice A0_2 l0_2.length c0_2), .int .i64 a0_3, .int .i64 a0_4, .int .i64 a0_5, .int .i64 a0_6] 28 (0, 0))) ∧ Aside0 (Below w.heap.size w w'))
         case atStart => exact ⟨(y214), (1), zd', H', ⟨Nat.le_refl _⟩, ⟨by (try simp only [hl5_1]); (try simp only [hl5_2]); (with_reducible repeat (first | apply Kd.N_alloc | apply Kd.N_drewN | apply Kd.N_drew)); exact HO216.out⟩, ⟨zv'⟩, ⟨zi'⟩⟩
         case round =>
          clear H'
          try clear c1
          try clear p1
          try clear q1
          try clear hx1
          try clear c2
          try clear p2
          try clear q2
          try clear hx2
          try clear hf2
          try clear c4
          try clear c4b0
          try clear c4b1
          try clear c5
          try clear c5b0
          try clear c5b1
          try clear p6
          try clear c11
          try clear c11b0
          try clear c12
          try clear c12b0
          try clear c13
          try clear c13b0
          try clear p14
          try clear q14
          try clear hx14
          try clear hf14
          try clear c17
          try clear c17b0
          try clear c19
          try clear c19b0
          try clear c20
          try clear c20b0
          try clear p21
          try clear q21
          try clear hx21
          try clear hf21
          try clear hcz7_0
          try clear hcz7_1
          try clear hcz7_2
          try clear hcz7_3
          try clear hcz7_4
          try clear hcz7_5
          try clear hcz7_6
          try clear hfz7_0
          try clear hfz7_1
          try clear hfz7_2
          try clear hfz7_3
          try clear hfz7_4
          try clear hfz7_5
          try clear hfz7_6
          try clear hx14_0
          try clear hx21_0
          try clear p1
          try clear p14
          try clear p2
          try clear p21
          try clear p6
          try clear q1
          try clear q14
          try clear q21
          obtain ⟨x8_3, x9_3, rfl, HA, HK3, HO_8, BK208, HB⟩ := hrel
          cases gk with
          | zero => exact absurd HA.out (by simp [impl_costsTo.l2])
          | succ k3 =>
           have H := HA.out
           clear HA
           simp only [impl_costsTo.l2] at H
           by_cases c26 : x9_3 < 60
           ·rw [if_pos c26] at H
            have c26b0 : decide (x9_3 < 60) = true := decide_eq_true c26
            clear c26
            by_cases c27 : 0 ≤ (x5_2.length : Int)
            ·rw [if_pos c27] at H
             have c27b0 := eq_true c27
             have c27b1 : decide (0 ≤ (x5_2.length : Int)) = true := decide_eq_true c27
             clear c27
             by_cases c28 : ((x5_2.length : Int) : Int).toNat ≤ 35184372088832
             ·rw [if_pos c28] at H
              have c28b0 := eq_true c28
              have c28b1 : decide (((x5_2.length : Int) : Int).toNat ≤ 35184372088832) = true := decide_eq_true c28
              clear c28
              obtain ⟨y217, hy217⟩ : ∃ y_ : List Int, y_ = (List.replicate ((x5_2.length : Int) : Int).toNat 0) := ⟨_, rfl⟩
              replace H : (impl_costsTo.l3 k3 x8_3 x9_3 y217 (x5_2.length : Int) (l0_2.length : Int) 0 a0_0 a0_1 l0_2 a0_3 a0_4 a0_5 a0_6) = some r := by first | (rw [hy217]; with_reducible exact H) | (have H2_ := (Option.bind_some _ _).symm.trans H; rw [hy217]; with_reducible exact H2_) | (have H2_ := (Option.bind_some _ _).symm.trans H; with_reducible exact H2_) | with_reducible exact H | (rw [hy217]; exact H) | exact H
              have Ny217 := Aside0.mk hy217
              clear hy217
              have H' := Aside0.mk H
              clear H
              go_wp2_with (first | ((with_reducible refine gate_dst (N := 49) rfl ?_); refine Kd.R_make (Kd.int .i64) _ 3 rfl (N := 49) rfl 22 _ _ rfl (x5_2.length : Int) rfl rfl Tryd.underlying22 (.int .i64 0) 8 info3 rfl (by decide) (by omega) 0 (ok := fun _ => True) (okp := fun _ => True) rfl (fun _ hk => hk) trivial odt (Nat.le_trans (Nat.mul_le_mul_right _ (odt : (x5_2.length : Int).toNat ≤ 35184372088832)) (by omega)) (Below.refl _ _) (Nat.le_refl _) ?_; intro v218 w29 ho30 hb hg_ hnew_; clear hg_ hnew_; (first | rw [← Ny217.out] at ho30 | (simp only [Int.reduceToNat] at ho30; rw [← Ny217.out] at ho30)); have n0_ := am (Kd.N_elder' zk2' (Kd.R_base ho30) hb); have n1_ := am (Kd.R_lower (Kd.R_newM (M := fun k_ => (w.heap.size ≤ k_)) ho30 (below_size zi') (fun k_ h_ => h_)) (below_size zi')); have n2_ := am (blk_below (g := gb208) (o := .cells #[.int .i64 a0_0, .int .i64 a0_1, .slice A0_2 l0_2.length c0_2, .int .i64 a0_3, .int .i64 a0_4, .int .i64 a0_5, .int .i64 a0_6] 28 (0, 0)) zb1' hb); have n3_ := am (below_step zi' hb); clear HO_8; clear BK208; clear HB; have HO_8 := n0_; have HO219 := n1_; have BK208 := n2_; have HB := n3_; clear n0_ n1_ n2_ n3_; clear hb ho30; have hcz31_0 : w29.cell? ⟨gb208, 0, none⟩ = some (.int .i64 a0_0) := (blk_cell BK208.out 0).trans rfl; have hcz31_1 : w29.cell? ⟨gb208, 1, none⟩ = some (.int .i64 a0_1) := (blk_cell BK208.out 1).trans rfl; have hcz31_2 : w29.cell? ⟨gb208, 2, none⟩ = some (.slice A0_2 l0_2.length c0_2) := (blk_cell BK208.out 2).trans rfl; have hcz31_3 : w29.cell? ⟨gb208, 3, none⟩ = some (.int .i64 a0_3) := (blk_cell BK208.out 3).trans rfl; have hcz31_4 : w29.cell? ⟨gb208, 4, none⟩ = some (.int .i64 a0_4) := (blk_cell BK208.out 4).trans rfl; have hcz31_5 : w29.cell? ⟨gb208, 5, none⟩ = some (.int .i64 a0_5) := (blk_cell BK208.out 5).trans rfl; have hcz31_6 : w29.cell? ⟨gb208, 6, none⟩ = some (.int .i64 a0_6) := (blk_cell BK208.out 6).trans rfl; have hfz31_0 := blk_frozen BK208.out 0; have hfz31_1 := blk_frozen BK208.out 1; have hfz31_2 := blk_frozen BK208.out 2; have hfz31_3 := blk_frozen BK208.out 3; have hfz31_4 := blk_frozen BK208.out 4; have hfz31_5 := blk_frozen BK208.out 5; have hfz31_6 := blk_frozen BK208.out 6))
              go_loopg [53] k3 (fun kq v53 w' => ∃ (x10_4 : List Int) (x53_4 : Int), v53 = .int .i64 x53_4 ∧ Aside0 (impl_costsTo.l3 kq x8_3 x9_3 x10_4 (x5_2.length : Int) (l0_2.length : Int) x53_4 a0_0 a0_1 l0_2 a0_3 a0_4 a0_5 a0_6 = some r) ∧ Aside0 (kq ≤ k3) ∧ Aside0 (Kd.N (Kd.slice 3 (Kd.int .i64)) 22 w' w.heap.size (fun k_ => (w.heap.size ≤ k_) ∧ some k_ ≠ (v218 : Value).ownBlock ∧ k_ ≠ gb208) u8 x8_3) ∧ Aside0 (Kd.R (Kd.int .i64) 3 w' w.heap.size (fun k_ => (w.heap.size ≤ k_)) v218 x10_4) ∧ Aside0 (w'.heap[gb208]? = some (.cells #[.int .i64 a0_0, .int .i64 a0_1, (.slice A0_2 l0_2.length c0_2), .int .i64 a0_3, .int .i64 a0_4, .int .i64 a0_5, .int .i64 a0_6] 28 (0, 0))) ∧ Aside0 (Below w.heap.size w w'))
              case atStart => exact ⟨(y217), (0), zd', H', ⟨Nat.le_refl _⟩, ⟨zn3'⟩, ⟨by (try simp only [hl5_1]); (try simp only [hl5_2]); (with_reducible repeat (first | apply Kd.R_alloc | apply Kd.R_drewN | apply Kd.R_drew)); exact Kd.R_mono HO219.out (fun _ hk => hk.1)⟩, ⟨zv'⟩, ⟨zi'⟩⟩
              case round =>
               clear H'
               try clear c1
               try clear p1
               try clear q1
               try clear hx1
               try clear c2
               try clear p2
               try clear q2
               try clear hx2
               try clear hf2
               try clear c4
               try clear c4b0
               try clear c4b1
               try clear c5
               try clear c5b0
               try clear c5b1
               try clear p6
               try clear c11
               try clear c11b0
               try clear c12
               try clear c12b0
               try clear c13
               try clear c13b0
               try clear p14
               try clear q14
               try clear hx14
               try clear hf14
               try clear c17
               try clear c17b0
               try clear c19
               try clear c19b0
               try clear c20
               try clear c20b0
               try clear p21
               try clear q21
               try clear hx21
               try clear hf21
               try clear c26
               try clear c26b0
               try clear c27
               try clear c27b0
               try clear c27b1
               try clear c28
               try clear c28b0
               try clear c28b1
               try clear hcz31_0
               try clear hcz31_1
               try clear hcz31_2
               try clear hcz31_3
               try clear hcz31_4
               try clear hcz31_5
               try clear hcz31_6
               try clear hcz7_0
               try clear hcz7_1
               try clear hcz7_2
               try clear hcz7_3
               try clear hcz7_4
               try clear hcz7_5
               try clear hcz7_6
               try clear hfz31_0
               try clear hfz31_1
               try clear hfz31_2
               try clear hfz31_3
               try clear hfz31_4
               try clear hfz31_5
               try clear hfz31_6
               try clear hfz7_0
               try clear hfz7_1
               try clear hfz7_2
               try clear hfz7_3
               try clear hfz7_4
               try clear hfz7_5
               try clear hfz7_6
               try clear hx14_0
               try clear hx21_0
               try clear p1
               try clear p14
               try clear p2
               try clear p21
               try clear p6
               try clear q1
               try clear q14
               try clear q2
               try clear q21
               obtain ⟨x10_4, x53_4, rfl, HA, HK4, HO_8, HO_10, BK208, HB⟩ := hrel
               cases gk with
               | zero => exact absurd HA.out (by simp [impl_costsTo.l3])
               | succ k4 =>
                have H := HA.out
                clear HA
                simp only [impl_costsTo.l3] at H
                by_cases c32 : x53_4 < (l0_2.length : Int)
                ·rw [if_pos c32] at H
                 have c32b0 : decide (x53_4 < (l0_2.length : Int)) = true := decide_eq_true c32
                 clear c32
                 have H' := Aside0.mk H
                 clear H
                 go_wp2
                 go_loopg [12] k4 (fun kq v12 w' => ∃ (x10_5 : List Int) (x12_5 : Int), v12 = .int .i64 x12_5 ∧ Aside0 (impl_costsTo.l4 kq x8_3 x9_3 x10_5 x53_4 x12_5 (x5_2.length : Int) (l0_2.length : Int) x53_4 a0_0 a0_1 l0_2 a0_3 a0_4 a0_5 a0_6 = some r) ∧ Aside0 (kq ≤ k4) ∧ Aside0 (Kd.N (Kd.slice 3 (Kd.int .i64)) 22 w' w.heap.size (fun k_ => (w.heap.size ≤ k_) ∧ some k_ ≠ (v218 : Value).ownBlock ∧ k_ ≠ gb208) u8 x8_3) ∧ Aside0 (Kd.R (Kd.int .i64) 3 w' w.heap.size (fun k_ => (w.heap.size ≤ k_)) v218 x10_5) ∧ Aside0 (w'.heap[gb208]? = some (.cells #[.int .i64 a0_0, .int .i64 a0_1, (.slice A0_2 l0_2.length c0_2), .int .i64 a0_3, .int .i64 a0_4, .int .i64 a0_5, .int .i64 a0_6] 28 (0, 0))) ∧ Aside0 (Below w.heap.size w w'))
                 case atStart => exact ⟨(x10_4), (0), zd', H', ⟨Nat.le_refl _⟩, ⟨zp1'⟩, ⟨zf1'⟩, ⟨zv'⟩, ⟨zi'⟩⟩
                 case round =>
                  clear H'
                  try clear c1
                  try clear p1
                  try clear q1
                  try clear hx1
                  try clear c2
                  try clear p2
                  try clear q2
                  try clear hx2
                  try clear hf2
                  try clear c3
                  try clear c4
                  try clear c4b0
                  try clear c4b1
                  try clear c5
                  try clear c5b0
                  try clear c5b1
                  try clear p6
                  try clear c11
                  try clear c11b0
                  try clear c12
                  try clear c12b0
                  try clear c13
                  try clear c13b0
                  try clear p14
                  try clear q14
                  try clear hx14
                  try clear hf14
                  try clear c17
                  try clear c17b0
                  try clear c19
                  try clear c19b0
                  try clear c20
                  try clear c20b0
                  try clear p21
                  try clear q21
                  try clear hx21
                  try clear hf21
                  try clear c26
                  try clear c26b0
                  try clear c27
                  try clear c27b0
                  try clear c27b1
                  try clear c28
                  try clear c28b0
                  try clear c28b1
                  try clear c32
                  try clear c32b0
                  try clear hcz31_0
                  try clear hcz31_1
                  try clear hcz31_2
                  try clear hcz31_3
                  try clear hcz31_4
                  try clear hcz31_5
                  try clear hcz31_6
                  try clear hcz7_0
                  try clear hcz7_1
                  try clear hcz7_2
                  try clear hcz7_3
                  try clear hcz7_4
                  try clear hcz7_5
                  try clear hcz7_6
                  try clear hfz31_0
                  try clear hfz31_1
                  try clear hfz31_2
                  try clear hfz31_3
                  try clear hfz31_4
                  try clear hfz31_5
                  try clear hfz31_6
                  try clear hfz7_0
                  try clear hfz7_1
                  try clear hfz7_2
                  try clear hfz7_3
                  try clear hfz7_4
                  try clear hfz7_5
                  try clear hfz7_6
                  try clear hx14_0
                  try clear hx21_0
                  try clear p1
                  try clear p14
                  try clear p2
                  try clear p21
                  try clear p6
                  try clear q1
                  try clear q14
                  try clear q2
                  try clear q21
                  obtain ⟨x10_5, x12_5, rfl, HA, HK5, HO_8, HO_10, BK208, HB⟩ := hrel
                  cases gk with
                  | zero => exact absurd HA.out (by simp [impl_costsTo.l4])
                  | succ k5 =>
                   have H := HA.out
                   clear HA
                   simp only [impl_costsTo.l4] at H
                   by_cases c33 : x12_5 < 5
                   ·rw [if_pos c33] at H
                    have c33b0 : decide (x12_5 < 5) = true := decide_eq_true c33
                    clear c33
                    have H' := Aside0.mk H
                    clear H
                    obtain ⟨hgl0, hgl1, hgl2, hgl3⟩ := laid_below HG.out HB.out
                    go_wp2
                    go_loopg [13, 61] k5 (fun kq v13 v61 w' => ∃ (x13_6 : Int) (x61_6 : Int), v13 = .int .i64 x13_6 ∧ v61 = .int .i64 x61_6 ∧ Aside0 (impl_costsTo.l5 kq x8_3 x9_3 x10_5 x53_4 x12_5 x13_6 (x5_2.length : Int) (l0_2.length : Int) x53_4 x61_6 a0_0 a0_1 l0_2 a0_3 a0_4 a0_5 a0_6 = some r) ∧ Aside0 (kq ≤ k5 ∧ 0 ≤ x61_6) ∧ Aside0 (Kd.N (Kd.slice 3 (Kd.int .i64)) 22 w' w.heap.size (fun k_ => (w.heap.size ≤ k_) ∧ some k_ ≠ (v218 : Value).ownBlock ∧ k_ ≠ gb208) u8 x8_3) ∧ Aside0 (Kd.R (Kd.int .i64) 3 w' w.heap.size (fun k_ => (w.heap.size ≤ k_)) v218 x10_5) ∧ Aside0 (w'.heap[gb208]? = some (.cells #[.int .i64 a0_0, .int .i64 a0_1, (.slice A0_2 l0_2.length c0_2), .int .i64 a0_3, .int .i64 a0_4, .int .i64 a0_5, .int .i64 a0_6] 28 (0, 0))) ∧ Aside0 (Below w.heap.size w w'))
                    case atStart => exact ⟨(1099511627776), (0), zd', zd', H', ⟨Nat.le_refl _, by decide⟩, ⟨zp1'⟩, ⟨zf1'⟩, ⟨zv'⟩, ⟨zi'⟩⟩
                    case round =>
                     clear H'
                     try clear c1
                     try clear hgl0
                     try clear hgl1
                     try clear hgl2
                     try clear hgl3
                     try clear p1
                     try clear q1
                     try clear hx1
                     try clear c2
                     try clear p2
                     try clear q2
                     try clear hx2
                     try clear hf2
                     try clear c3
                     try clear c4
                     try clear c4b0
                     try clear c4b1
                     try clear c5
                     try clear c5b0
                     try clear c5b1
                     try clear p6
                     try clear c11
                     try clear c11b0
                     try clear c12
                     try clear c12b0
                     try clear c13
                     try clear c13b0
                     try clear p14
                     try clear q14
                     try clear hx14
                     try clear hf14
                     try clear c17
                     try clear c17b0
                     try clear c19
                     try clear c19b0
                     try clear c20
                     try clear c20b0
                     try clear p21
                     try clear q21
                     try clear hx21
                     try clear hf21
                     try clear c26
                     try clear c26b0
                     try clear c27
                     try clear c27b0
                     try clear c27b1
                     try clear c28
                     try clear c28b0
                     try clear c28b1
                     try clear c32
                     try clear c32b0
                     try clear c33
                     try clear c33b0
                     try clear hcz31_0
                     try clear hcz31_1
                     try clear hcz31_2
                     try clear hcz31_3
                     try clear hcz31_4
                     try clear hcz31_5
                     try clear hcz31_6
                     try clear hcz7_0
                     try clear hcz7_1
                     try clear hcz7_2
                     try clear hcz7_3
                     try clear hcz7_4
                     try clear hcz7_5
                     try clear hcz7_6
                     try clear hfz31_0
                     try clear hfz31_1
                     try clear hfz31_2
                     try clear hfz31_3
                     try clear hfz31_4
                     try clear hfz31_5
                     try clear hfz31_6
                     try clear hfz7_0
                     try clear hfz7_1
                     try clear hfz7_2
                     try clear hfz7_3
                     try clear hfz7_4
                     try clear hfz7_5
                     try clear hfz7_6
                     try clear hx14_0
                     try clear hx21_0
                     try clear p1
                     try clear p14
                     try clear p2
                     try clear p21
                     try clear p6
                     try clear q1
                     try clear q14
                     try clear q2
                     try clear q21
                     obtain ⟨x13_6, x61_6, rfl, rfl, HA, HK6, HO_8, HO_10, BK208, HB⟩ := hrel
                     cases gk with
                     | zero => exact absurd HA.out (by simp [impl_costsTo.l5])
                     | succ k6 =>
                      have H := HA.out
                      clear HA
                      simp only [impl_costsTo.l5] at H
                      by_cases c34 : x61_6 < 4
                      ·rw [if_pos c34] at H
                       have HX4 := am (side_next x61_6 HK6.out.2 c34)
                       have hidx := run_side x61_6 HK6.out.2 c34
                       have c34b0 : decide (x61_6 < 4) = true := decide_eq_true c34
                       clear c34
                       replace H := Option.bind_eq_some_iff.mp H
                       obtain ⟨t224, A350, H⟩ := H
                       replace H : (if t224 ≥ 0 then (if x61_6 = (wrap64 (3 - x12_5)) then (impl_costsTo.l5 k6 x8_3 x9_3 x10_5 x53_4 x12_5 x13_6 (x5_2.length : Int) (l0_2.length : Int) x53_4 (wrap64 (x61_6 + 1)) a0_0 a0_1 l0_2 a0_3 a0_4 a0_5 a0_6) else (if 0 ≤ (wrap64 (x9_3 - 1)) then (if (wrap64 (x9_3 - 1)) < (x8_3.length : Int) then ((impl_moveCost.f a0_0 a0_1 l0_2 a0_3 a0_4 a0_5 a0_6 (rd_L1 x8_3 (wrap64 (x9_3 - 1))) x53_4 t224 x12_5 x61_6).bind fun t226 => (impl_costsTo.l5 k6 x8_3 x9_3 x10_5 x53_4 x12_5 (mn x13_6 t226) (x5_2.length : Int) (l0_2.length : Int) x53_4 (wrap64 (x61_6 + 1)) a0_0 a0_1 l0_2 a0_3 a0_4 a0_5 a0_6)) else (none)) else (none))) else (impl_costsTo.l5 k6 x8_3 x9_3 x10_5 x53_4 x12_5 x13_6 (x5_2.length : Int) (l0_2.length : Int) x53_4 (wrap64 (x61_6 + 1)) a0_0 a0_1 l0_2 a0_3 a0_4 a0_5 a0_6)) = some r := H
                       have A35 := Aside0.mk A350
                       clear A350
                       by_cases c36 : t224 ≥ 0
                       ·rw [if_pos c36] at H
                        have c36b0 : decide (0 ≤ t224) = true := decide_eq_true c36
                        clear c36
                        by_cases c37 : x61_6 = (wrap64 (3 - x12_5))
                        ·rw [if_pos c37] at H
                         have c37b0 : (x61_6 == (wrap64 (3 - x12_5))) = true := beq_iff_eq.mpr c37
                         have c37b1 : (x61_6 != (wrap64 (3 - x12_5))) = false := bne_eq_false_iff_eq.mpr c37
                         clear c37
                         have H' := Aside0.mk H
                         clear H
                         have hcz38_0 : wr.cell? ⟨gb208, 0, none⟩ = some (.int .i64 a0_0) := (blk_cell BK208.out 0).trans rfl
                         have hcz38_1 : wr.cell? ⟨gb208, 1, none⟩ = some (.int .i64 a0_1) := (blk_cell BK208.out 1).trans rfl
                         have hcz38_2 : wr.cell? ⟨gb208, 2, none⟩ = some (.slice A0_2 l0_2.length c0_2) := (blk_cell BK208.out 2).trans rfl
                         have hcz38_3 : wr.cell? ⟨gb208, 3, none⟩ = some (.int .i64 a0_3) := (blk_cell BK208.out 3).trans rfl
                         have hcz38_4 : wr.cell? ⟨gb208, 4, none⟩ = some (.int .i64 a0_4) := (blk_cell BK208.out 4).trans rfl
                         have hcz38_5 : wr.cell? ⟨gb208, 5, none⟩ = some (.int .i64 a0_5) := (blk_cell BK208.out 5).trans rfl
                         have hcz38_6 : wr.cell? ⟨gb208, 6, none⟩ = some (.int .i64 a0_6) := (blk_cell BK208.out 6).trans rfl
                         have hfz38_0 := blk_frozen BK208.out 0
                         have hfz38_1 := blk_frozen BK208.out 1
                         have hfz38_2 := blk_frozen BK208.out 2
                         have hfz38_3 := blk_frozen BK208.out 3
                         have hfz38_4 := blk_frozen BK208.out 4
                         have hfz38_5 := blk_frozen BK208.out 5
                         have hfz38_6 := blk_frozen BK208.out 6
                         go_wp2_with (first | ((with_reducible refine gate_callee (f := 61) rfl ?_); refine goesL_ (some 67) rfl rfl Tryd.func61 (by kernel_rfl) rfl #[.agg #[.int .i64 a0_0, .int .i64 a0_1, .slice A0_2 l0_2.length c0_2, .int .i64 a0_3, .int .i64 a0_4, .int .i64 a0_5, .int .i64 a0_6], .int .i64 x53_4, .int .i64 x61_6] rfl zc' ?_; (with_reducible refine (impl_sideOf.calls a0_0 a0_1 _ _ l0_2 a0_3 a0_4 a0_5 a0_6 x53_4 x61_6 t224 _ ?side1 ?side2 A35.out).mono ?_); (case side1 => exact zb'); (case side2 => exact zn1'); rintro e w39 ⟨rfl, hb⟩; refine ⟨_, rfl, ?_⟩; have n0_ := am (Kd.N_below zk2' hb); have n1_ := am (Kd.R_below zz2' hb); have n2_ := am (blk_below (g := gb208) (o := .cells #[.int .i64 a0_0, .int .i64 a0_1, .slice A0_2 l0_2.length c0_2, .int .i64 a0_3, .int .i64 a0_4, .int .i64 a0_5, .int .i64 a0_6] 28 (0, 0)) zb1' hb); have n3_ := am (below_step zi' hb); clear HO_8; clear HO_10; clear BK208; clear HB; have HO_8 := n0_; have HO_10 := n1_; have BK208 := n2_; have HB := n3_; clear n0_ n1_ n2_ n3_; (try clear hb); (try clear hb2); (try clear hk); (try clear hi)))
                         go_roundg k6
                         case measure => have := HK1.out; have := HK2.out; have := HK3.out; have := HK4.out; have := HK5.out; have := HK6.out; omega
                         case rel => exact ⟨(x13_6), (wrap64 (x61_6 + 1)), zd', zd', H', ⟨by have := HK1.out; have := HK2.out; have := HK3.out; have := HK4.out; have := HK5.out; have := HK6.out.1; omega, HX4.out⟩, ⟨zp1'⟩, ⟨zf1'⟩, ⟨zv'⟩, ⟨zi'⟩⟩
                        ·rw [if_neg c37] at H
                         have c37b0 : (x61_6 == (wrap64 (3 - x12_5))) = false := beq_eq_false_iff_ne.mpr c37
                         have c37b1 : (x61_6 != (wrap64 (3 - x12_5))) = true := bne_iff_ne.mpr c37
                         obtain ⟨ji40, hji40⟩ : ∃ j_ : Int, (wrap64 (x9_3 - 1)) = j_ := ⟨_, rfl⟩
                         replace H : (if 0 ≤ (ji40) then (if (ji40) < (x8_3.length : Int) then ((impl_moveCost.f a0_0 a0_1 l0_2 a0_3 a0_4 a0_5 a0_6 (rd_L1 x8_3 (ji40)) x53_4 t224 x12_5 x61_6).bind fun t226 => (impl_costsTo.l5 k6 x8_3 x9_3 x10_5 x53_4 x12_5 (mn x13_6 t226) (x5_2.length : Int) (l0_2.length : Int) x53_4 (wrap64 (x61_6 + 1)) a0_0 a0_1 l0_2 a0_3 a0_4 a0_5 a0_6)) else (none)) else (none)) = some r := by first | (rw [hji40] at H; exact H) | (simp only [hji40] at H ⊢; exact H)
                         (try rw [hji40] at A35)
                         have hji40w : (IntKind.i64.wrap (x9_3 - 1)) = ji40 := (i64_w _).trans hji40
                         by_cases c41 : 0 ≤ (ji40)
                         ·rw [if_pos c41] at H
                          have c41b0 : decide (0 ≤ (ji40)) = true := decide_eq_true c41
                          clear c41
                          by_cases c42 : (ji40) < (x8_3.length : Int)
                          ·rw [if_pos c42] at H
                           have c42b0 : decide ((ji40) < (x8_3.length : Int)) = true := decide_eq_true c42
                           clear c42
                           replace H := Option.bind_eq_some_iff.mp H
                           obtain ⟨t226, A430, H⟩ := H
                           replace H : (impl_costsTo.l5 k6 x8_3 x9_3 x10_5 x53_4 x12_5 (mn x13_6 t226) (x5_2.length : Int) (l0_2.length : Int) x53_4 (wrap64 (x61_6 + 1)) a0_0 a0_1 l0_2 a0_3 a0_4 a0_5 a0_6) = some r := H
                           have A43 := Aside0.mk A430
                           clear A430
                           obtain ⟨ji44, hji44⟩ : ∃ j_ : Int, (mn x13_6 t226) = j_ := ⟨_, rfl⟩
                           replace H : (impl_costsTo.l5 k6 x8_3 x9_3 x10_5 x53_4 x12_5 ji44 (x5_2.length : Int) (l0_2.length : Int) x53_4 (wrap64 (x61_6 + 1)) a0_0 a0_1 l0_2 a0_3 a0_4 a0_5 a0_6) = some r := by first | (rw [hji44] at H; exact H) | (simp only [hji44] at H ⊢; exact H)
                           (try rw [hji44] at A35)
                           (try rw [hji44] at A43)
                           have hji44_ : (if t226 < x13_6 then t226 else x13_6) = ji44 := hji44
                           have H' := Aside0.mk H
                           clear H
                           have hcz45_0 : wr.cell? ⟨gb208, 0, none⟩ = some (.int .i64 a0_0) := (blk_cell BK208.out 0).trans rfl
                           have hcz45_1 : wr.cell? ⟨gb208, 1, none⟩ = some (.int .i64 a0_1) := (blk_cell BK208.out 1).trans rfl
                           have hcz45_2 : wr.cell? ⟨gb208, 2, none⟩ = some (.slice A0_2 l0_2.length c0_2) := (blk_cell BK208.out 2).trans rfl
                           have hcz45_3 : wr.cell? ⟨gb208, 3, none⟩ = some (.int .i64 a0_3) := (blk_cell BK208.out 3).trans rfl
                           have hcz45_4 : wr.cell? ⟨gb208, 4, none⟩ = some (.int .i64 a0_4) := (blk_cell BK208.out 4).trans rfl
                           have hcz45_5 : wr.cell? ⟨gb208, 5, none⟩ = some (.int .i64 a0_5) := (blk_cell BK208.out 5).trans rfl
                           have hcz45_6 : wr.cell? ⟨gb208, 6, none⟩ = some (.int .i64 a0_6) := (blk_cell BK208.out 6).trans rfl
                           have hfz45_0 := blk_frozen BK208.out 0
                           have hfz45_1 := blk_frozen BK208.out 1
                           have hfz45_2 := blk_frozen BK208.out 2
                           have hfz45_3 := blk_frozen BK208.out 3
                           have hfz45_4 := blk_frozen BK208.out 4
                           have hfz45_5 := blk_frozen BK208.out 5
                           have hfz45_6 := blk_frozen BK208.out 6
                           try go_wp2_with (first | ((with_reducible refine gate_callee (f := 61) rfl ?_); refine goesL_ (some 67) rfl rfl Tryd.func61 (by kernel_rfl) rfl #[.agg #[.int .i64 a0_0, .int .i64 a0_1, .slice A0_2 l0_2.length c0_2, .int .i64 a0_3, .int .i64 a0_4, .int .i64 a0_5, .int .i64 a0_6], .int .i64 x53_4, .int .i64 x61_6] rfl zc' ?_; (with_reducible refine (impl_sideOf.calls a0_0 a0_1 _ _ l0_2 a0_3 a0_4 a0_5 a0_6 x53_4 x61_6 t224 _ ?side1 ?side2 A35.out).mono ?_); (case side1 => exact zb'); (case side2 => exact zn1'); rintro e w46 ⟨rfl, hb⟩; refine ⟨_, rfl, ?_⟩; have n0_ := am (Kd.N_below zk2' hb); have n1_ := am (Kd.R_below zz2' hb); have n2_ := am (blk_below (g := gb208) (o := .cells #[.int .i64 a0_0, .int .i64 a0_1, .slice A0_2 l0_2.length c0_2, .int .i64 a0_3, .int .i64 a0_4, .int .i64 a0_5, .int .i64 a0_6] 28 (0, 0)) zb1' hb); have n3_ := am (below_step zi' hb); clear HO_8; clear HO_10; clear BK208; clear HB; have HO_8 := n0_; have HO_10 := n1_; have BK208 := n2_; have HB := n3_; clear n0_ n1_ n2_ n3_; (try clear hb); (try clear hb2); (try clear hk); (try clear hi)))
                           have n0_ := am (Kd.N_drew HO_8.out)
                           have n1_ := am (Kd.R_drew HO_10.out)
                           have n2_ := am (blk_drew BK208.out)
                           have n3_ := am (below_drew1 HB.out)
                           clear HO_8
                           clear HO_10
                           clear BK208
                           clear HB
                           have HO_8 := n0_
                           have HO_10 := n1_
                           have BK208 := n2_
                           have HB := n3_
                           clear n0_ n1_ n2_ n3_
                           obtain ⟨Ao48, co48, eo48⟩ := Kd.N_slice HO_8.out
                           (first | subst eo48 | (injection eo48 with f1_ f2_ f3_; have f4_ := f1_.symm; have f5_ := f3_.symm; clear f1_ f2_ f3_; subst f4_; subst f5_))
                           have p225 : 0 ≤ ((ji40) : Int) := odt
                           have q225 : (ji40) < (x8_3.length : Int) := odt
                           obtain ⟨ad225, A225_0, c225_0, e225, hx225_0, hl225_0, hi225_0⟩ := at_L1 (Kd.N_reads' HO_8.out).2.2 (ji40) p225 q225
                           cases e225
                           obtain ⟨ce225, hce225, hMe225, hcc225⟩ := Kd.N_get HO_8.out [] (ji40) p225 (by first | exact q225 | exact odt | (have e_ := (Kd.N_reads' HO_8.out).1; omega))
                           obtain ⟨ua225_0, uc225_0, rfl, ul225_0, ge225_0⟩ := Kd.FK_slice_open hMe225
                           have hv225_0 := hcc225 0 _ rfl
                           rw [Nat.add_zero, show ((Kd.slice 3 (Kd.int .i64))).sz = 1 from rfl, Nat.mul_one] at hv225_0
                           replace hv225_0 := Option.some.inj (hv225_0.symm.trans hx225_0)
                           injection hv225_0 with hva_ hvn_ hvc_
                           rw [hva_] at ge225_0
                           rw [hvc_] at ul225_0
                           have HL225_0 := am (show Kd.V (Kd.int .i64) 3 _ w.heap.size _ _ (rd_L1 x8_3 (ji40)) from Kd.V_mk ul225_0 ge225_0)
                           clear hva_ hvn_ hvc_ ge225_0 ul225_0
                           clear hcc225 hce225
                           have HR225_0 := Aside0.mk hi225_0
                           have HC225_0 := Aside0.mk hl225_0
                           clear hi225_0 hl225_0
                           replace p225 := eq_true p225
                           replace q225 := eq_true q225
                           refine start_ (n := 14) (S := fun w' => w'.cell? ⟨gb208, 0, none⟩ = some (.int .i64 a0_0) ∧ w'.cell? ⟨gb208, 1, none⟩ = some (.int .i64 a0_1) ∧ w'.cell? ⟨gb208, 2, none⟩ = some (.slice A0_2 l0_2.length c0_2) ∧ w'.cell? ⟨gb208, 3, none⟩ = some (.int .i64 a0_3) ∧ w'.cell? ⟨gb208, 4, none⟩ = some (.int .i64 a0_4) ∧ w'.cell? ⟨gb208, 5, none⟩ = some (.int .i64 a0_5) ∧ w'.cell? ⟨gb208, 6, none⟩ = some (.int .i64 a0_6) ∧ w'.cell? (ad225.add ((ji40)).toNat) = some (.slice A225_0 (rd_L1 x8_3 (ji40)).length c225_0)) (ds := []) #[Z,Z,Z,Z,Z,Z,Z,Z,Z,Z,Z,Z,Z,Z] (by kernel_rfl) rfl rfl ⟨(blk_cell BK208.out 0).trans rfl, (blk_cell BK208.out 1).trans rfl, (blk_cell BK208.out 2).trans rfl, (blk_cell BK208.out 3).trans rfl, (blk_cell BK208.out 4).trans rfl, (blk_cell BK208.out 5).trans rfl, (blk_cell BK208.out 6).trans rfl, hx225_0⟩ (fun hHeld => ?_); refine with_tabW impl_costsTo.tab28 impl_costsTo.bits28 (fun HT_ HW_ => ?_)
                           generalize w46.drew = w47 at HO_8 HO_10 BK208 HB HL225_0 HR225_0 hx225_0 hHeld ⊢
                           refine pure_ (i := 0) (N := some 76) (v := ?_) (a' := ?_) #[Y,Z,Z,Z,Z,Z,Z,Z,Z,Z,Z,Z,Z,Z] rfl rfl (any_of HT_.out (by kernel_rfl)) (fun _ _ _ h => h) (Or.inl ⟨by rfl, ?_⟩) ?_ ?_
                           rotate_left
                           ·intro w'
                            go_simp
                            with_reducible rfl
                           rotate_left
                           ·simp only [Act.put, s1, s2, s3, i64_w, i32_w]
                            rfl
                           refine pure_ (i := 2) (N := some 78) (v := ?_) (a' := ?_) #[Y,Z,Y,Z,Z,Z,Z,Z,Z,Z,Z,Z,Z,Z] rfl rfl (any_of HT_.out (by kernel_rfl)) (fun _ _ _ h => h) (Or.inl ⟨by rfl, ?_⟩) ?_ ?_
                           rotate_left
                           ·intro w'
                            go_simp
                            with_reducible rfl
                           rotate_left
                           ·simp only [Act.put, s1, s2, s3, i64_w, i32_w]
                            rfl
                           refine pure_ (i := 3) (N := some 79) (v := ?_) (a' := ?_) #[Y,Z,Y,Y,Z,Z,Z,Z,Z,Z,Z,Z,Z,Z] rfl rfl (any_of HT_.out (by kernel_rfl)) (fun _ _ _ h => h) (Or.inl ⟨by rfl, ?_⟩) ?_ ?_
                           rotate_left
                           ·intro w'
                            go_simp
                            with_reducible rfl
                           rotate_left
                           ·simp only [Act.put, s1, s2, s3, i64_w, i32_w]
                            rfl
                           refine pure_ (i := 4) (N := some 80) (v := ?_) (a' := ?_) #[Y,Z,Y,Y,Y,Z,Z,Z,Z,Z,Z,Z,Z,Z] rfl rfl (any_of HT_.out (by kernel_rfl)) (fun _ _ _ h => h) (Or.inl ⟨by rfl, ?_⟩) ?_ ?_
                           rotate_left
                           ·intro w'
                            go_simp
                            with_reducible rfl
                           rotate_left
                           ·simp only [Act.put, s1, s2, s3, i64_w, i32_w]
                            rfl
                           refine pure_ (i := 5) (N := some 81) (v := ?_) (a' := ?_) #[Y,Z,Y,Y,Y,Y,Z,Z,Z,Z,Z,Z,Z,Z] rfl rfl (any_of HT_.out (by kernel_rfl)) (fun _ _ _ h => h) (Or.inl ⟨by rfl, ?_⟩) ?_ ?_
                           rotate_left
                           ·intro w'
                            go_simp
                            with_reducible rfl
                           rotate_left
                           ·simp only [Act.put, s1, s2, s3, i64_w, i32_w]
                            rfl
                           refine pure_ (i := 7) (N := some 83) (v := ?_) (a' := ?_) #[Y,Z,Y,Y,Y,Y,Z,Y,Z,Z,Z,Z,Z,Z] rfl rfl (any_of HT_.out (by kernel_rfl)) (fun _ _ _ h => h) (Or.inl ⟨by rfl, ?_⟩) ?_ ?_
                           rotate_left
                           ·intro w'
                            go_simp
                            with_reducible rfl
                           rotate_left
                           ·simp only [Act.put, s1, s2, s3, i64_w, i32_w]
                            rfl
                           refine pure_ (i := 8) (N := some 84) (v := ?_) (a' := ?_) #[Y,Z,Y,Y,Y,Y,Z,Y,Y,Z,Z,Z,Z,Z] rfl rfl (any_of HT_.out (by kernel_rfl)) (fun _ _ _ h => h) (Or.inl ⟨by rfl, ?_⟩) ?_ ?_
                           rotate_left
                           ·intro w'
                            go_simp
                            with_reducible rfl
                           rotate_left
                           ·simp only [Act.put, s1, s2, s3, i64_w, i32_w]
                            rfl
                           refine pure_ (i := 9) (N := some 85) (v := ?_) (a' := ?_) #[Y,Z,Y,Y,Y,Y,Z,Y,Y,Y,Z,Z,Z,Z] rfl rfl (any_of HT_.out (by kernel_rfl)) (fun _ _ _ h => h) (Or.inl ⟨by rfl, ?_⟩) ?_ ?_
                           rotate_left
                           ·intro w'
                            go_simp
                            with_reducible rfl
                           rotate_left
                           ·simp only [Act.put, s1, s2, s3, i64_w, i32_w]
                            rfl
                           refine pure_ (i := 10) (N := some 86) (v := ?_) (a' := ?_) #[Y,Z,Y,Y,Y,Y,Z,Y,Y,Y,Y,Z,Z,Z] rfl rfl (any_of HT_.out (by kernel_rfl)) (fun _ _ _ h => h) (Or.inl ⟨by rfl, ?_⟩) ?_ ?_
                           rotate_left
                           ·intro w'
                            go_simp
                            with_reducible rfl
                           rotate_left
                           ·simp only [Act.put, s1, s2, s3, i64_w, i32_w]
                            rfl
                           refine take_ (i := 1) (N := some 77) (v := ?_) (a' := ?_) #[Y,Y,Y,Y,Y,Y,Z,Y,Y,Y,Y,Z,Z,Z] rfl rfl (take_ofW HT_.out HW_.out (by kernel_rfl)) (fun _ _ _ h => h) (Or.inl ⟨by rfl, ?_⟩) hHeld ?_ ?_
                           rotate_left
                           ·rintro w' ⟨s0, s1, s2, s3, s4, s5, s6, s7⟩
                            go_simp
                            with_reducible rfl
                           rotate_left
                           ·simp only [Act.put, s1, s2, s3, i64_w, i32_w]
                            rfl
                           refine take_ (i := 6) (N := some 82) (v := ?_) (a' := ?_) #[Y,Y,Y,Y,Y,Y,Y,Y,Y,Y,Y,Z,Z,Z] rfl rfl (take_ofW HT_.out HW_.out (by kernel_rfl)) (fun _ _ _ h => h) (Or.inl ⟨by rfl, ?_⟩) hHeld ?_ ?_
                           rotate_left
                           ·rintro w' ⟨s0, s1, s2, s3, s4, s5, s6, s7⟩
                            go_simp
                            with_reducible rfl
                           rotate_left
                           ·simp only [Act.put, s1, s2, s3, i64_w, i32_w]
                            rfl
                           refine one_ (i := 11) (N := some 87) #[Y,Y,Y,Y,Y,Y,Y,Y,Y,Y,Y,Y,Z,Z] rfl rfl (one_of HT_.out (by kernel_rfl)) (by decide) (fun K hK => ?_)
                           refine goes_ Tryd.func62 (by kernel_rfl) rfl #[.agg #[.int .i64 a0_0, .int .i64 a0_1, .slice A0_2 l0_2.length c0_2, .int .i64 a0_3, .int .i64 a0_4, .int .i64 a0_5, .int .i64 a0_6], .slice A225_0 (rd_L1 x8_3 (ji40)).length c225_0, .int .i64 x53_4, .int .i64 t224, .int .i64 x12_5, .int .i64 x61_6] (by rfl) rfl rfl (by (try simp only [List.map_toArray, List.map_cons, List.map_nil]); first | done | (simp only [hji40]; rfl) | rfl | (simp only [List.length_drop, List.length_take]; rfl)) ?_
                           with_reducible refine (impl_moveCost.calls a0_0 a0_1 _ _ l0_2 a0_3 a0_4 a0_5 a0_6 _ _ (rd_L1 x8_3 (ji40)) x53_4 t224 x12_5 x61_6 t226 _ ?side1 ?side2 ?side3 ?side4 A43.out).mono ?_
                           (case side1 => exact zb')
                           (case side2 => exact zn1')
                           (case side3 => repeat (first | exact zr3' | (with_reducible refine Kd.C_alloc ?_ _) | (with_reducible refine Kd.C_drewN ?_ _) | (with_reducible refine Kd.C_drew ?_)))
                           (case side4 => exact HC225_0.out)
                           rintro e w49 ⟨rfl, hb⟩
                           have HS7_ := (hb.cell (World.block_lt_of_cell? _ _ (hHeld.2.2.2.2.2.2.2))).trans (hHeld.2.2.2.2.2.2.2)
                           refine ⟨_, rfl, ?_⟩
                           have n0_ := am (Kd.N_below zk2' hb)
                           have n1_ := am (Kd.R_below zz2' hb)
                           have n2_ := am (Kd.V_below (by (with_reducible repeat (first | apply Kd.V_alloc | apply Kd.V_drewN | apply Kd.V_drew)); exact HL225_0.out) hb)
                           have n3_ := am (blk_below (g := gb208) (o := .cells #[.int .i64 a0_0, .int .i64 a0_1, .slice A0_2 l0_2.length c0_2, .int .i64 a0_3, .int .i64 a0_4, .int .i64 a0_5, .int .i64 a0_6] 28 (0, 0)) zb1' hb)
                           have n4_ := am (Kd.C_below zr3' hb)
                           have n5_ := am (below_step zi' hb)
                           clear HO_8
                           clear HO_10
                           clear HL225_0
                           clear BK208
                           clear HR225_0
                           clear HB
                           have HO_8 := n0_
                           have HO_10 := n1_
                           have HL225_0 := n2_
                           have BK208 := n3_
                           have HR225_0 := n4_
                           have HB := n5_
                           clear n0_ n1_ n2_ n3_ n4_ n5_
                           (try clear hb)
                           (try clear hb2)
                           (try clear hk)
                           (try clear hi)
                           refine hK.out _ _ ⟨(blk_cell BK208.out 0).trans rfl, (blk_cell BK208.out 1).trans rfl, (blk_cell BK208.out 2).trans rfl, (blk_cell BK208.out 3).trans rfl, (blk_cell BK208.out 4).trans rfl, (blk_cell BK208.out 5).trans rfl, (blk_cell BK208.out 6).trans rfl, HS7_⟩ (fun hHeld => ?_)
                           clear hK K
                           refine norm_ (a' := ?_) ?_ ?_
                           rotate_left
                           ·show Act.put _ (some 87) _ = _
                            simp only [Act.put, s1, s2, s3, i64_w, i32_w]
                            rfl
                           refine pure_ (i := 12) (N := some 88) (v := ?_) (a' := ?_) #[Y,Y,Y,Y,Y,Y,Y,Y,Y,Y,Y,Y,Y,Z] rfl rfl (any_of HT_.out (by kernel_rfl)) (fun _ _ _ h => h) (Or.inl ⟨by rfl, ?_⟩) ?_ ?_
                           rotate_left
                           ·intro w'
                            go_simp
                            with_reducible rfl
                           rotate_left
                           ·simp only [Act.put, s1, s2, s3, i64_w, i32_w]
                            rfl
                           refine pure_ (i := 13) (N := some 13) (v := ?_) (a' := ?_) #[Y,Y,Y,Y,Y,Y,Y,Y,Y,Y,Y,Y,Y,Y] rfl rfl (any_of HT_.out (by kernel_rfl)) (fun _ _ _ h => h) (Or.inl ⟨by rfl, ?_⟩) ?_ ?_
                           rotate_left
                           ·intro w'
                            go_simp
                            with_reducible rfl
                           rotate_left
                           ·simp only [Act.put, s1, s2, s3, i64_w, i32_w]
                            rfl
                           refine done_ (done_of HT_.out (by kernel_rfl)) ?_
                           try go_wp2
                           go_roundg k6
                           case measure => have := HK1.out; have := HK2.out; have := HK3.out; have := HK4.out; have := HK5.out; have := HK6.out; omega
                           case rel => exact ⟨(ji44), (wrap64 (x61_6 + 1)), (by first | rfl | (simp; done) | (simp only [← hji44] <;> (first | rfl | simp)) | (simp [*]; done)), zd', H', ⟨by have := HK1.out; have := HK2.out; have := HK3.out; have := HK4.out; have := HK5.out; have := HK6.out.1; omega, HX4.out⟩, ⟨zp1'⟩, ⟨zf1'⟩, ⟨zv'⟩, ⟨zi'⟩⟩
                          ·rw [if_neg c42] at H
                           exact absurd H (by simp)
                         ·rw [if_neg c41] at H
                          exact absurd H (by simp)
                       ·rw [if_neg c36] at H
                        have c36b0 : decide (0 ≤ t224) = false := decide_eq_false c36
                        clear c36
                        have H' := Aside0.mk H
                        clear H
                        have hcz50_0 : wr.cell? ⟨gb208, 0, none⟩ = some (.int .i64 a0_0) := (blk_cell BK208.out 0).trans rfl
                        have hcz50_1 : wr.cell? ⟨gb208, 1, none⟩ = some (.int .i64 a0_1) := (blk_cell BK208.out 1).trans rfl
                        have hcz50_2 : wr.cell? ⟨gb208, 2, none⟩ = some (.slice A0_2 l0_2.length c0_2) := (blk_cell BK208.out 2).trans rfl
                        have hcz50_3 : wr.cell? ⟨gb208, 3, none⟩ = some (.int .i64 a0_3) := (blk_cell BK208.out 3).trans rfl
                        have hcz50_4 : wr.cell? ⟨gb208, 4, none⟩ = some (.int .i64 a0_4) := (blk_cell BK208.out 4).trans rfl
                        have hcz50_5 : wr.cell? ⟨gb208, 5, none⟩ = some (.int .i64 a0_5) := (blk_cell BK208.out 5).trans rfl
                        have hcz50_6 : wr.cell? ⟨gb208, 6, none⟩ = some (.int .i64 a0_6) := (blk_cell BK208.out 6).trans rfl
                        have hfz50_0 := blk_frozen BK208.out 0
                        have hfz50_1 := blk_frozen BK208.out 1
                        have hfz50_2 := blk_frozen BK208.out 2
                        have hfz50_3 := blk_frozen BK208.out 3
                        have hfz50_4 := blk_frozen BK208.out 4
                        have hfz50_5 := blk_frozen BK208.out 5
                        have hfz50_6 := blk_frozen BK208.out 6
                        go_wp2_with (first | ((with_reducible refine gate_callee (f := 61) rfl ?_); refine goesL_ (some 67) rfl rfl Tryd.func61 (by kernel_rfl) rfl #[.agg #[.int .i64 a0_0, .int .i64 a0_1, .slice A0_2 l0_2.length c0_2, .int .i64 a0_3, .int .i64 a0_4, .int .i64 a0_5, .int .i64 a0_6], .int .i64 x53_4, .int .i64 x61_6] rfl zc' ?_; (with_reducible refine (impl_sideOf.calls a0_0 a0_1 _ _ l0_2 a0_3 a0_4 a0_5 a0_6 x53_4 x61_6 t224 _ ?side1 ?side2 A35.out).mono ?_); (case side1 => exact zb'); (case side2 => exact zn1'); rintro e w51 ⟨rfl, hb⟩; refine ⟨_, rfl, ?_⟩; have n0_ := am (Kd.N_below zk2' hb); have n1_ := am (Kd.R_below zz2' hb); have n2_ := am (blk_below (g := gb208) (o := .cells #[.int .i64 a0_0, .int .i64 a0_1, .slice A0_2 l0_2.length c0_2, .int .i64 a0_3, .int .i64 a0_4, .int .i64 a0_5, .int .i64 a0_6] 28 (0, 0)) zb1' hb); have n3_ := am (below_step zi' hb); clear HO_8; clear HO_10; clear BK208; clear HB; have HO_8 := n0_; have HO_10 := n1_; have BK208 := n2_; have HB := n3_; clear n0_ n1_ n2_ n3_; (try clear hb); (try clear hb2); (try clear hk); (try clear hi)))
                        go_roundg k6
                        case measure => have := HK1.out; have := HK2.out; have := HK3.out; have := HK4.out; have := HK5.out; have := HK6.out; omega
                        case rel => exact ⟨(x13_6), (wrap64 (x61_6 + 1)), zd', zd', H', ⟨by have := HK1.out; have := HK2.out; have := HK3.out; have := HK4.out; have := HK5.out; have := HK6.out.1; omega, HX4.out⟩, ⟨zp1'⟩, ⟨zf1'⟩, ⟨zv'⟩, ⟨zi'⟩⟩
                      ·rw [if_neg c34] at H
                       have c34b0 : decide (x61_6 < 4) = false := decide_eq_false c34
                       clear c34
                       obtain ⟨ji52, hji52⟩ : ∃ j_ : Int, (wrap64 ((wrap64 (x53_4 * 5)) + x12_5)) = j_ := ⟨_, rfl⟩
                       replace H : (if 0 ≤ (ji52) then (if (ji52) < (x10_5.length : Int) then (impl_costsTo.l4 k6 x8_3 x9_3 (x10_5.set ((ji52) : Int).toNat x13_6) x53_4 (wrap64 (x12_5 + 1)) (x5_2.length : Int) (l0_2.length : Int) x53_4 a0_0 a0_1 l0_2 a0_3 a0_4 a0_5 a0_6) else (none)) else (none)) = some r := by first | (rw [hji52] at H; exact H) | (simp only [hji52] at H ⊢; exact H)
                       have hji52w : (IntKind.i64.wrap ((wrap64 (x53_4 * 5)) + x12_5)) = ji52 := (i64_w _).trans hji52
                       by_cases c53 : 0 ≤ (ji52)
                       ·rw [if_pos c53] at H
                        have c53b0 : decide (0 ≤ (ji52)) = true := decide_eq_true c53
                        clear c53
                        by_cases c54 : (ji52) < (x10_5.length : Int)
                        ·rw [if_pos c54] at H
                         have c54b0 : decide ((ji52) < (x10_5.length : Int)) = true := decide_eq_true c54
                         clear c54
                         obtain ⟨y223, hy223⟩ : ∃ y_ : List Int, y_ = (x10_5.set ((ji52) : Int).toNat x13_6) := ⟨_, rfl⟩
                         replace H : (impl_costsTo.l4 k6 x8_3 x9_3 y223 x53_4 (wrap64 (x12_5 + 1)) (x5_2.length : Int) (l0_2.length : Int) x53_4 a0_0 a0_1 l0_2 a0_3 a0_4 a0_5 a0_6) = some r := by first | (rw [hy223]; with_reducible exact H) | (have H2_ := (Option.bind_some _ _).symm.trans H; rw [hy223]; with_reducible exact H2_) | (have H2_ := (Option.bind_some _ _).symm.trans H; with_reducible exact H2_) | with_reducible exact H | (rw [hy223]; exact H) | exact H
                         have Ny223 := Aside0.mk hy223
                         clear hy223
                         have H' := Aside0.mk H
                         clear H
                         have p55 : 0 ≤ ((ji52) : Int) := odt
                         have q55 : ((ji52) : Int) < ((x10_5.length : Int) : Int) := odt
                         obtain ⟨go55, co55, eo55, gb55, gl55, cl55, HG55⟩ := Kd.R_form HO_10.out (by omega)
                         (first | cases eo55 | (injection eo55 with ea_ en_ ec_; (first | subst ea_ | (injection ea_ with ea_; subst ea_)); subst ec_; clear en_))
                         have GB55 := Aside0.mk gb55
                         have GG55 := Aside0.mk HG55
                         clear gb55 gl55 HG55
                         obtain ⟨hx55_0, hf55_0⟩ := Kd.R_celln 0 HO_10.out ((ji52) : Int) p55 q55
                         replace p55 := eq_true p55
                         replace q55 := eq_true q55
                         have HP56 := Kd.R_putg HO_10.out ((ji52) : Int) x13_6
                         go_wp2_with (first | ((with_reducible refine gate_store (t := 3) (p := 96) rfl ?_); refine store_event (t := 3) (p := 96) (v := ?vo_w57) (w1 := (wr.setCell ⟨go55, ((ji52) : Int).toNat, none⟩ (.int .i64 x13_6))) ?hg ?ho ?hn ?hr ?_; (case ho => rfl); (case hg => rfl); (case hn => rfl); (case hr => exact ze'); intro w57 hw; have hg : wr.grownBy w57 (some go55) := (by rw [hw]; exact HP56.2); have hp_ : Kd.R (Kd.int .i64) 3 w57 w.heap.size (fun k_ => (w.heap.size ≤ k_)) (.slice (some ⟨go55, 0, none⟩) x10_5.length co55) y223 := (by rw [hw, Ny223.out]; exact HP56.1); clear HP56; have n0_ := am (Kd.N_afterv (v := (.slice (some ⟨go55, 0, none⟩) x10_5.length co55)) (v1 := (.slice (some ⟨go55, 0, none⟩) x10_5.length co55)) (ok := (fun k_ => (w.heap.size ≤ k_) ∧ k_ ≠ gb208)) (by (with_reducible repeat (first | apply Kd.N_alloc | apply Kd.N_drewN | apply Kd.N_drew)); exact Kd.N_mono HO_8.out (fun _ hk => ⟨⟨hk.1, hk.2.2⟩, hk.2.1⟩)) hg (.inl rfl)); have n1_ := am (hp_); have n2_ := am (blk_grown (g := gb208) (o := .cells #[.int .i64 a0_0, .int .i64 a0_1, .slice A0_2 l0_2.length c0_2, .int .i64 a0_3, .int .i64 a0_4, .int .i64 a0_5, .int .i64 a0_6] 28 (0, 0)) zb1' hg (Kd.R_ne HO_10.out BK208.out (by decide))); have n3_ := am ((by rw [hw]; exact below_set (HB.out) GB55.out : Below w.heap.size w w57)); clear HO_8; clear HO_10; clear BK208; clear HB; have HO_8 := n0_; have HO_10 := n1_; have BK208 := n2_; have HB := n3_; clear n0_ n1_ n2_ n3_; clear hg hw hp_))
                         go_roundg k6
                         case measure => have := HK1.out; have := HK2.out; have := HK3.out; have := HK4.out; have := HK5.out; have := HK6.out; omega
                         case rel => exact ⟨(y223), (wrap64 (x12_5 + 1)), zd', H', ⟨by have := HK1.out; have := HK2.out; have := HK3.out; have := HK4.out; have := HK5.out; have := HK6.out; omega⟩, ⟨zn3'⟩, ⟨zf1'⟩, ⟨zv'⟩, ⟨zi'⟩⟩
                        ·rw [if_neg c54] at H
                         exact absurd H (by simp)
                       ·rw [if_neg c53] at H
                        exact absurd H (by simp)
                   ·rw [if_neg c33] at H
                    have c33b0 : decide (x12_5 < 5) = false := decide_eq_false c33
                    clear c33
                    have H' := Aside0.mk H
                    clear H
                    go_wp2
                    go_roundg k5
                    case measure => have := HK1.out; have := HK2.out; have := HK3.out; have := HK4.out; have := HK5.out; omega
                    case rel => exact ⟨(x10_5), (wrap64 (x53_4 + 1)), zd', H', ⟨by have := HK1.out; have := HK2.out; have := HK3.out; have := HK4.out; have := HK5.out; omega⟩, ⟨zp1'⟩, ⟨zf1'⟩, ⟨zv'⟩, ⟨zi'⟩⟩
                ·rw [if_neg c32] at H
                 have c32b0 : decide (x53_4 < (l0_2.length : Int)) = false := decide_eq_false c32
                 clear c32
                 by_cases c58 : x8_3.length < 5864062014805
                 ·rw [if_pos c58] at H
                  have LMc58 := Aside0.mk c58
                  clear c58
                  obtain ⟨y220, hy220⟩ : ∃ y_ : List (List Int), y_ = (x8_3 ++ [x10_4]) := ⟨_, rfl⟩
                  replace H : (impl_costsTo.l2 k4 y220 (wrap64 (x9_3 + 1)) (x5_2.length : Int) a0_0 a0_1 l0_2 a0_3 a0_4 a0_5 a0_6) = some r := by first | (rw [hy220]; with_reducible exact H) | (have H2_ := (Option.bind_some _ _).symm.trans H; rw [hy220]; with_reducible exact H2_) | (have H2_ := (Option.bind_some _ _).symm.trans H; with_reducible exact H2_) | with_reducible exact H | (rw [hy220]; exact H) | exact H
                  have Ny220 := Aside0.mk hy220
                  clear hy220
                  have H' := Aside0.mk H
                  clear H
                  obtain ⟨Ao60, co60, eo60⟩ := Kd.R_slice HO_10.out
                  subst eo60
                  go_wp2_with (first | ((with_reducible refine gate_builtin (b := .append) (xs := #[.tmp 98, .tmp 100]) rfl ?_); at_builtin; refine Kd.N_append (Kd.slice 3 (Kd.int .i64)) (w0 := w) w.heap.size rfl (.tmp 98) (.tmp 100) 67 22 (.slice none 0 0) 24 rfl Tryd.underlying67 info22 rfl (by decide) (by omega) u8 x8_3 x10_4 [.slice Ao60 x10_4.length co60] (fun k_ => (w.heap.size ≤ k_) ∧ k_ ≠ gb208) (fun k_ => ((fun k_ => (w.heap.size ≤ k_) ∧ k_ ≠ gb208)) k_ ∧ some k_ ≠ (u8 : Value).ownBlock) rfl rfl ?aP (fun _ hk => hk) ?aF ?aO ?aB ?aS ?aL ?_; (case aP => exact (Kd.FK_slice_mk (Kd.R_reads' (Kd.R_mono (ok' := (fun k_ => ((fun k_ => (w.heap.size ≤ k_) ∧ k_ ≠ gb208)) k_ ∧ some k_ ≠ (u8 : Value).ownBlock)) (Kd.R_types (Kd.R_apart' (HO_10.out) (Kd.N_typed HO_8.out) (by decide)) BK208.out (by decide)) (fun k_ hk => ⟨⟨hk.1.1, hk.2⟩, hk.1.2⟩))).2.1 (Kd.R_F (Kd.R_mono (ok' := (fun k_ => ((fun k_ => (w.heap.size ≤ k_) ∧ k_ ≠ gb208)) k_ ∧ some k_ ≠ (u8 : Value).ownBlock)) (Kd.R_types (Kd.R_apart' (HO_10.out) (Kd.N_typed HO_8.out) (by decide)) BK208.out (by decide)) (fun k_ hk => ⟨⟨hk.1.1, hk.2⟩, hk.1.2⟩))))); (case aB => exact zi'); (case aF => exact (fun k_ hk => ⟨(Nat.le_trans (below_size zi') hk), Kd.freshB (g := gb208) (o := .cells #[.int .i64 a0_0, .int .i64 a0_1, .slice A0_2 l0_2.length c0_2, .int .i64 a0_3, .int .i64 a0_4, .int .i64 a0_5, .int .i64 a0_6] 28 (0, 0)) zb1' k_ hk⟩)); (case aO => exact (by (with_reducible repeat (first | apply Kd.N_alloc | apply Kd.N_drewN | apply Kd.N_drew)); exact Kd.N_mono HO_8.out (fun _ hk => ⟨hk.1, hk.2.2⟩))); (case aS => exact (below_size zi')); (case aL => have := LMc58.out; omega); intro v221 w59 ho hb hg hat; rw [← Ny220.out] at ho; have n0_ := am (blk_grown (g := gb208) (o := .cells #[.int .i64 a0_0, .int .i64 a0_1, .slice A0_2 l0_2.length c0_2, .int .i64 a0_3, .int .i64 a0_4, .int .i64 a0_5, .int .i64 a0_6] 28 (0, 0)) zb1' hg (Kd.N_ne HO_8.out BK208.out (by decide))); have n1_ := am (hb); have n2_ := am (ho); clear BK208; clear HB; clear HO_8; clear HO_10; have BK208 := n0_; have HB := n1_; have HO222 := n2_; clear n0_ n1_ n2_; clear ho hb hg hat))
                  go_roundg k4
                  case measure => have := HK1.out; have := HK2.out; have := HK3.out; have := HK4.out; omega
                  case rel => exact ⟨(y220), (wrap64 (x9_3 + 1)), zd', H', ⟨by have := HK1.out; have := HK2.out; have := HK3.out; have := HK4.out; omega⟩, ⟨by (try simp only [hl5_1]); (try simp only [hl5_2]); (with_reducible repeat (first | apply Kd.N_alloc | apply Kd.N_drewN | apply Kd.N_drew)); exact HO222.out⟩, ⟨zv'⟩, ⟨zi'⟩⟩
                 ·rw [if_neg c58] at H
                  exact absurd H (by simp)
             ·rw [if_neg c28] at H
              exact absurd H (by simp)
            ·rw [if_neg c27] at H
             exact absurd H (by simp)
           ·rw [if_neg c26] at H
            have c26b0 : decide (x9_3 < 60) = false := decide_eq_false c26
            clear c26
            obtain rfl := Option.some.inj H
            go_wp2
            go_ret
            exact ⟨_, by first | rfl | (simp [errW_none, errW_some] <;> rfl) | (simp only [← hji3]; first | rfl | (simp [errW_none, errW_some] <;> rfl)) | (simp [*, errW_none, errW_some] <;> rfl), by (with_reducible repeat (first | apply Kd.N_alloc | apply Kd.N_drewN | apply Kd.N_drew)); exact Kd.N_mono HO_8.out (fun _ hk => hk.1), by repeat (first | (with_reducible first | exact HB.out | apply ba | apply bn | apply below_drew1 | refine below_set ?_ GE208.out) | exact HB.out)⟩
  ·rw [if_neg c5] at H
   exact absurd H (by simp)
 ·rw [if_neg c4] at H
  exact absurd H (by simp)

end Go.Proofs.YtbgjhdhdfdfpkaaDoor.PFnExactCheapestWay
