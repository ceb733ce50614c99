/- Text written by a program for this claim: contracts of the functions of one law. -/
import Derived.Test.YtbgjhdhdfdfpkaaDoorPFnExactCheapestWayx0
import Derived.Test.YtbgjhdhdfdfpkaaDoorPFnExactCheapestWayx8
import Derived.Test.YtbgjhdhdfdfpkaaDoorPFnExactCheapestWayx10
import Derived.Test.YtbgjhdhdfdfpkaaDoorPFnExactCheapestWayx11
import Derived.Test.YtbgjhdhdfdfpkaaDoorPFnExactCheapestWayx12
namespace Go.Proofs.YtbgjhdhdfdfpkaaDoor.PFnExactCheapestWay
open Go.RowKit Go.Proofs.YtbgjhdhdfdfpkaaDoorW.PrintWords Go.Proofs.YtbgjhdhdfdfpkaaDoorW.PrintLast Go.Proofs.YtbgjhdhdfdfpkaaDoorW.PrintMore
attribute [local go_sem] max2_int min2_int max_two min_two max_three min_three max_four min_four   -- for this text's walks alone
set_option linter.unusedVariables false
set_option linter.unusedSimpArgs false
open ShortPFnExactCheapestWay0
namespace ShortPFnExactCheapestWay13
abbrev m0_ : Array Bool := #[Z,Z,Z,Z,Z,Z,Z,Z,Z,Z,Z,Z,Z,Z,Z,Z,Z,Z,Z,Z,Z,Z,Z,Z,Z,Z,Z,Z,Z,Z,Z,Z]
abbrev m1_ : Array Bool := #[Y,Z,Z,Z,Z,Z,Z,Z,Z,Z,Z,Z,Z,Z,Z,Z,Z,Z,Z,Z,Z,Z,Z,Z,Z,Z,Z,Z,Z,Z,Z,Z]
abbrev m2_ : Array Bool := #[Y,Y,Z,Z,Z,Z,Z,Z,Z,Z,Z,Z,Z,Z,Z,Z,Z,Z,Z,Z,Z,Z,Z,Z,Z,Z,Z,Z,Z,Z,Z,Z]
abbrev m3_ : Array Bool := #[Y,Y,Y,Z,Z,Z,Z,Z,Z,Z,Z,Z,Z,Z,Z,Z,Z,Z,Z,Z,Z,Z,Z,Z,Z,Z,Z,Z,Z,Z,Z,Z]
abbrev m4_ : Array Bool := #[Y,Y,Y,Y,Z,Z,Z,Z,Z,Z,Z,Z,Z,Z,Z,Z,Z,Z,Z,Z,Z,Z,Z,Z,Z,Z,Z,Z,Z,Z,Z,Z]
abbrev m5_ : Array Bool := #[Y,Y,Y,Y,Y,Z,Z,Z,Z,Z,Z,Z,Z,Z,Z,Z,Z,Z,Z,Z,Z,Z,Z,Z,Z,Z,Z,Z,Z,Z,Z,Z]
abbrev m6_ : Array Bool := #[Y,Y,Y,Y,Y,Y,Z,Z,Z,Z,Z,Z,Z,Z,Z,Z,Z,Z,Z,Z,Z,Z,Z,Z,Z,Z,Z,Z,Z,Z,Z,Z]
abbrev m7_ : Array Bool := #[Y,Y,Y,Y,Y,Y,Y,Z,Z,Z,Z,Z,Z,Z,Z,Z,Z,Z,Z,Z,Z,Z,Z,Z,Z,Z,Z,Z,Z,Z,Z,Z]
abbrev m8_ : Array Bool := #[Y,Y,Y,Y,Y,Y,Y,Y,Z,Z,Z,Z,Z,Z,Z,Z,Z,Z,Z,Z,Z,Z,Z,Z,Z,Z,Z,Z,Z,Z,Z,Z]
abbrev m9_ : Array Bool := #[Y,Y,Y,Y,Y,Y,Y,Y,Y,Z,Z,Z,Z,Z,Z,Z,Z,Z,Z,Z,Z,Z,Z,Z,Z,Z,Z,Z,Z,Z,Z,Z]
abbrev m10_ : Array Bool := #[Y,Y,Y,Y,Y,Y,Y,Y,Y,Y,Z,Z,Z,Z,Z,Z,Z,Z,Z,Z,Z,Z,Z,Z,Z,Z,Z,Z,Z,Z,Z,Z]
abbrev m11_ : Array Bool := #[Y,Y,Y,Y,Y,Y,Y,Y,Y,Y,Y,Z,Z,Z,Z,Z,Z,Z,Z,Z,Z,Z,Z,Z,Z,Z,Z,Z,Z,Z,Z,Z]
abbrev m12_ : Array Bool := #[Y,Y,Y,Y,Y,Y,Y,Y,Y,Y,Y,Y,Z,Z,Z,Z,Z,Z,Z,Z,Z,Z,Z,Z,Z,Z,Z,Z,Z,Z,Z,Z]
abbrev m13_ : Array Bool := #[Y,Y,Y,Y,Y,Y,Y,Y,Y,Y,Y,Y,Y,Z,Z,Z,Z,Z,Z,Z,Z,Z,Z,Z,Z,Z,Z,Z,Z,Z,Z,Z]
abbrev m14_ : Array Bool := #[Y,Y,Y,Y,Y,Y,Y,Y,Y,Y,Y,Y,Y,Y,Z,Z,Z,Z,Z,Z,Z,Z,Z,Z,Z,Z,Z,Z,Z,Z,Z,Z]
abbrev m15_ : Array Bool := #[Y,Y,Y,Y,Y,Y,Y,Y,Y,Y,Y,Y,Y,Y,Y,Z,Z,Z,Z,Z,Z,Z,Z,Z,Z,Z,Z,Z,Z,Z,Z,Z]
abbrev m16_ : Array Bool := #[Y,Y,Y,Y,Y,Y,Y,Y,Y,Y,Y,Y,Y,Y,Y,Y,Z,Z,Z,Z,Z,Z,Z,Z,Z,Z,Z,Z,Z,Z,Z,Z]
abbrev m17_ : Array Bool := #[Y,Y,Y,Y,Y,Y,Y,Y,Y,Y,Y,Y,Y,Y,Y,Y,Y,Z,Z,Z,Z,Z,Z,Z,Z,Z,Z,Z,Z,Z,Z,Z]
abbrev m18_ : Array Bool := #[Y,Y,Y,Y,Y,Y,Y,Y,Y,Y,Y,Y,Y,Y,Y,Y,Y,Y,Z,Z,Z,Z,Z,Z,Z,Z,Z,Z,Z,Z,Z,Z]
abbrev m19_ : Array Bool := #[Y,Y,Y,Y,Y,Y,Y,Y,Y,Y,Y,Y,Y,Y,Y,Y,Y,Y,Y,Z,Z,Z,Z,Z,Z,Z,Z,Z,Z,Z,Z,Z]
abbrev m20_ : Array Bool := #[Y,Y,Y,Y,Y,Y,Y,Y,Y,Y,Y,Y,Y,Y,Y,Y,Y,Y,Y,Y,Z,Z,Z,Z,Z,Z,Z,Z,Z,Z,Z,Z]
abbrev m21_ : Array Bool := #[Y,Y,Y,Y,Y,Y,Y,Y,Y,Y,Y,Y,Y,Y,Y,Y,Y,Y,Y,Y,Y,Z,Z,Z,Z,Z,Z,Z,Z,Z,Z,Z]
abbrev m22_ : Array Bool := #[Y,Y,Y,Y,Y,Y,Y,Y,Y,Y,Y,Y,Y,Y,Y,Y,Y,Y,Y,Y,Y,Y,Z,Z,Z,Z,Z,Z,Z,Z,Z,Z]
abbrev m23_ : Array Bool := #[Y,Y,Y,Y,Y,Y,Y,Y,Y,Y,Y,Y,Y,Y,Y,Y,Y,Y,Y,Y,Y,Y,Y,Z,Z,Z,Z,Z,Z,Z,Z,Z]
abbrev m24_ : Array Bool := #[Y,Y,Y,Y,Y,Y,Y,Y,Y,Y,Y,Y,Y,Y,Y,Y,Y,Y,Y,Y,Y,Y,Y,Y,Z,Z,Z,Z,Z,Z,Z,Z]
abbrev m25_ : Array Bool := #[Y,Y,Y,Y,Y,Y,Y,Y,Y,Y,Y,Y,Y,Y,Y,Y,Y,Y,Y,Y,Y,Y,Y,Y,Y,Z,Z,Z,Z,Z,Z,Z]
abbrev m26_ : Array Bool := #[Y,Y,Y,Y,Y,Y,Y,Y,Y,Y,Y,Y,Y,Y,Y,Y,Y,Y,Y,Y,Y,Y,Y,Y,Y,Y,Z,Z,Z,Z,Z,Z]
abbrev m27_ : Array Bool := #[Y,Y,Y,Y,Y,Y,Y,Y,Y,Y,Y,Y,Y,Y,Y,Y,Y,Y,Y,Y,Y,Y,Y,Y,Y,Y,Y,Z,Z,Z,Z,Z]
abbrev m28_ : Array Bool := #[Y,Y,Y,Y,Y,Y,Y,Y,Y,Y,Y,Y,Y,Y,Y,Y,Y,Y,Y,Y,Y,Y,Y,Y,Y,Y,Y,Y,Z,Z,Z,Z]
abbrev m29_ : Array Bool := #[Y,Y,Y,Y,Y,Y,Y,Y,Y,Y,Y,Y,Y,Y,Y,Y,Y,Y,Y,Y,Y,Y,Y,Y,Y,Y,Y,Y,Y,Z,Z,Z]
abbrev m30_ : Array Bool := #[Y,Y,Y,Y,Y,Y,Y,Y,Y,Y,Y,Y,Y,Y,Y,Y,Y,Y,Y,Y,Y,Y,Y,Y,Y,Y,Y,Y,Y,Y,Z,Z]
abbrev m31_ : Array Bool := #[Y,Y,Y,Y,Y,Y,Y,Y,Y,Y,Y,Y,Y,Y,Y,Y,Y,Y,Y,Y,Y,Y,Y,Y,Y,Y,Y,Y,Y,Y,Y,Z]
abbrev m32_ : Array Bool := #[Y,Y,Y,Y,Y,Y,Y,Y,Y,Y,Y,Y,Y,Y,Y,Y,Y,Y,Y,Y,Y,Y,Y,Y,Y,Y,Y,Y,Y,Y,Y,Y]
abbrev m33_ : Array Bool := #[Y,Y,Y,Y,Y,Y,Y,Y,Y,Y,Y,Y,Z,Y,Z,Z,Z,Z,Z,Z,Z,Z,Z,Z,Z,Z,Z,Z,Z,Z,Z,Z]
abbrev m34_ : Array Bool := #[Y,Y,Y,Y,Y,Y,Y,Y,Y,Y,Y,Y,Z,Y,Y,Z,Z,Z,Z,Z,Z,Z,Z,Z,Z,Z,Z,Z,Z,Z,Z,Z]
abbrev m35_ : Array Bool := #[Y,Y,Y,Y,Y,Y,Y,Y,Y,Y,Y,Y,Z,Y,Y,Y,Z,Z,Z,Z,Z,Z,Z,Z,Z,Z,Z,Z,Z,Z,Z,Z]
abbrev m36_ : Array Bool := #[Y,Y,Y,Y,Y,Y,Y,Y,Y,Y,Y,Y,Z,Y,Y,Y,Y,Z,Z,Z,Z,Z,Z,Z,Z,Z,Z,Z,Z,Z,Z,Z]
abbrev m37_ : Array Bool := #[Y,Y,Y,Y,Y,Y,Y,Y,Y,Y,Y,Y,Z,Y,Y,Y,Y,Z,Z,Z,Y,Z,Z,Z,Z,Z,Z,Z,Z,Z,Z,Z]
abbrev m38_ : Array Bool := #[Y,Y,Y,Y,Y,Y,Y,Y,Y,Y,Y,Y,Z,Y,Y,Y,Y,Z,Z,Z,Y,Y,Z,Z,Z,Z,Z,Z,Z,Z,Z,Z]
abbrev m39_ : Array Bool := #[Y,Y,Y,Y,Y,Y,Y,Y,Y,Y,Y,Y,Z,Y,Y,Y,Y,Z,Z,Z,Y,Y,Y,Z,Z,Z,Z,Z,Z,Z,Z,Z]
abbrev m40_ : Array Bool := #[Y,Y,Y,Y,Y,Y,Y,Y,Y,Y,Y,Y,Z,Y,Y,Y,Y,Z,Z,Z,Y,Y,Y,Y,Z,Z,Z,Z,Z,Z,Z,Z]
abbrev m41_ : Array Bool := #[Y,Y,Y,Y,Y,Y,Y,Y,Y,Y,Y,Y,Z,Y,Y,Y,Y,Z,Z,Z,Y,Y,Y,Y,Z,Y,Z,Z,Z,Z,Z,Z]
abbrev m42_ : Array Bool := #[Y,Y,Y,Y,Y,Y,Y,Y,Y,Y,Y,Y,Z,Y,Y,Y,Y,Z,Z,Z,Y,Y,Y,Y,Z,Y,Y,Z,Z,Z,Z,Z]
abbrev m43_ : Array Bool := #[Y,Y,Y,Y,Y,Y,Y,Y,Y,Y,Y,Y,Z,Y,Y,Y,Y,Z,Z,Z,Y,Y,Y,Y,Z,Y,Y,Y,Z,Z,Z,Z]
abbrev m44_ : Array Bool := #[Y,Y,Y,Y,Y,Y,Y,Y,Y,Y,Y,Y,Z,Y,Y,Y,Y,Z,Z,Z,Y,Y,Y,Y,Z,Y,Y,Y,Y,Z,Z,Z]
abbrev m45_ : Array Bool := #[Y,Y,Y,Y,Y,Y,Y,Y,Y,Y,Y,Y,Y,Y,Y,Y,Y,Z,Z,Z,Y,Y,Y,Y,Z,Y,Y,Y,Y,Z,Z,Z]
abbrev m46_ : Array Bool := #[Y,Y,Y,Y,Y,Y,Y,Y,Y,Y,Y,Y,Y,Y,Y,Y,Y,Y,Z,Z,Y,Y,Y,Y,Z,Y,Y,Y,Y,Z,Z,Z]
abbrev m47_ : Array Bool := #[Y,Y,Y,Y,Y,Y,Y,Y,Y,Y,Y,Y,Y,Y,Y,Y,Y,Y,Y,Z,Y,Y,Y,Y,Z,Y,Y,Y,Y,Z,Z,Z]
abbrev m48_ : Array Bool := #[Y,Y,Y,Y,Y,Y,Y,Y,Y,Y,Y,Y,Y,Y,Y,Y,Y,Y,Y,Y,Y,Y,Y,Y,Z,Y,Y,Y,Y,Z,Z,Z]
end ShortPFnExactCheapestWay13
open ShortPFnExactCheapestWay13

/-! ### impl_CheapestWay: function 24 -/
mutual
def impl_CheapestWay.l0 : Nat → Int → List (List Int) → Int → List Int → Int → Int → Int → Int → List Int → Int → Int → Int → Int → Option (List Int × Int × Bool)
 | 0, _, _, _, _, _, _, _, _, _, _, _, _, _ => none
 | k + 1, x1, x9, x10, x11, x12, x13, x232000, x232001, x232002, x232003, x232004, x232005, x232006 => if x13 > 0 then (if 0 ≤ (wrap64 ((x11.length : Int) - 1)) then (if (wrap64 ((x11.length : Int) - 1)) < (x11.length : Int) then (impl_CheapestWay.l1 k x1 x9 x10 x11 x12 x13 (rd x11 (wrap64 ((x11.length : Int) - 1))) 0 x232000 x232001 x232002 x232003 x232004 x232005 x232006) else (none)) else (none)) else (if 0 ≤ x10 then (if x10 < (x9.length : Int) then (if 0 ≤ (wrap64 ((wrap64 (x1 * 5)) + 4)) then (if (wrap64 ((wrap64 (x1 * 5)) + 4)) < ((rd_L1 x9 x10).length : Int) then (some (x11, rd (rd_L1 x9 x10) (wrap64 ((wrap64 (x1 * 5)) + 4)), true)) else (none)) else (none)) else (none)) else (none))
def impl_CheapestWay.l1 : Nat → Int → List (List Int) → Int → List Int → Int → Int → Int → Int → Int → Int → List Int → Int → Int → Int → Int → Option (List Int × Int × Bool)
 | 0, _, _, _, _, _, _, _, _, _, _, _, _, _, _, _ => none
 | k + 1, x1, x9, x10, x11, x12, x13, x14, x46, x232000, x232001, x232002, x232003, x232004, x232005, x232006 => if x46 < 4 then ((impl_sideOf.f x232000 x232001 x232002 x232003 x232004 x232005 x232006 x14 x46).bind fun t246 => (if t246 ≥ 0 then (if x46 = (wrap64 (3 - x12)) then (impl_CheapestWay.l1 k x1 x9 x10 x11 x12 x13 x14 (wrap64 (x46 + 1)) x232000 x232001 x232002 x232003 x232004 x232005 x232006) else (if 0 ≤ x13 then (if x13 < (x9.length : Int) then (if 0 ≤ (wrap64 ((wrap64 (x14 * 5)) + x12)) then (if (wrap64 ((wrap64 (x14 * 5)) + x12)) < ((rd_L1 x9 x13).length : Int) then (if 0 ≤ (wrap64 (x13 - 1)) then (if (wrap64 (x13 - 1)) < (x9.length : Int) then ((impl_moveCost.f x232000 x232001 x232002 x232003 x232004 x232005 x232006 (rd_L1 x9 (wrap64 (x13 - 1))) x14 t246 x12 x46).bind fun t250 => (if (rd (rd_L1 x9 x13) (wrap64 ((wrap64 (x14 * 5)) + x12))) = t250 then (if x11.length < 17592186044416 then (impl_CheapestWay.l0 k x1 x9 x10 (x11 ++ [t246]) x46 (wrap64 (x13 - 1)) x232000 x232001 x232002 x232003 x232004 x232005 x232006) else (none)) else (impl_CheapestWay.l1 k x1 x9 x10 x11 x12 x13 x14 (wrap64 (x46 + 1)) x232000 x232001 x232002 x232003 x232004 x232005 x232006))) else (none)) else (none)) else (none)) else (none)) else (none)) else (none))) else (impl_CheapestWay.l1 k x1 x9 x10 x11 x12 x13 x14 (wrap64 (x46 + 1)) x232000 x232001 x232002 x232003 x232004 x232005 x232006))) else (impl_CheapestWay.l0 k x1 x9 x10 x11 x12 (wrap64 (x13 - 1)) x232000 x232001 x232002 x232003 x232004 x232005 x232006)
end
def impl_CheapestWay.f (k : Nat) (a0_0 : Int) (a0_1 : Int) (l0_2 : List Int) (a0_3 : Int) (a0_4 : Int) (a0_5 : Int) (a0_6 : Int) (a1 : Int) (a2 : Int) : Option (List Int × Int × Bool) := (impl_areCells.f k a0_0 a0_1 l0_2 a0_3 a0_4 a0_5 a0_6 (([a1, a2] : List Int))).bind fun t235 => (if t235 = true then ((impl_costsTo.f k a0_0 a0_1 l0_2 a0_3 a0_4 a0_5 a0_6 a2).bind fun t236 => ((impl_bestSteps.f k t236 a1).bind fun t239 => (if t239 < 0 then (some (([] : List Int), 0, false)) else (impl_CheapestWay.l0 k a1 t236 t239 (([a1] : List Int)) 4 t239 a0_0 a0_1 l0_2 a0_3 a0_4 a0_5 a0_6)))) else (some (([] : List Int), 0, false)))
theorem impl_CheapestWay.mono_l : ∀ k, (∀ y0 y1 y2 y3 y4 y5 y6 y7 y8 y9 y10 y11 y12, LeO (impl_CheapestWay.l0 k y0 y1 y2 y3 y4 y5 y6 y7 y8 y9 y10 y11 y12) (impl_CheapestWay.l0 (k + 1) y0 y1 y2 y3 y4 y5 y6 y7 y8 y9 y10 y11 y12)) ∧ (∀ y0 y1 y2 y3 y4 y5 y6 y7 y8 y9 y10 y11 y12 y13 y14, LeO (impl_CheapestWay.l1 k y0 y1 y2 y3 y4 y5 y6 y7 y8 y9 y10 y11 y12 y13 y14) (impl_CheapestWay.l1 (k + 1) y0 y1 y2 y3 y4 y5 y6 y7 y8 y9 y10 y11 y12 y13 y14))
 | 0 => ⟨fun _ _ _ _ _ _ _ _ _ _ _ _ _ r h => by simp [impl_CheapestWay.l0] at h, fun _ _ _ _ _ _ _ _ _ _ _ _ _ _ _ r h => by simp [impl_CheapestWay.l1] at h⟩
 | k + 1 => by
  obtain ⟨ih0, ih1⟩ := impl_CheapestWay.mono_l k
  refine ⟨?_, ?_⟩
  ·intro y0 y1 y2 y3 y4 y5 y6 y7 y8 y9 y10 y11 y12
   unfold impl_CheapestWay.l0
   repeat' first
   | (with_reducible exact ih0 _ _ _ _ _ _ _ _ _ _ _ _ _)
   | (with_reducible exact ih1 _ _ _ _ _ _ _ _ _ _ _ _ _ _ _)
   | (with_reducible exact impl_areCells.mono _ _ _ _ _ _ _ _ _)
   | (with_reducible exact impl_bestSteps.mono _ _ _)
   | (with_reducible exact impl_costsTo.mono _ _ _ _ _ _ _ _ _)
   | (with_reducible exact LeO.refl _)
   | (with_reducible exact LeO.none _)
   | (with_reducible refine LeO.ite ?_ ?_)
   | (with_reducible refine LeO.bind ?_ (fun _ => ?_))
   | exact ih0 _ _ _ _ _ _ _ _ _ _ _ _ _
   | exact ih1 _ _ _ _ _ _ _ _ _ _ _ _ _ _ _
   | exact impl_areCells.mono _ _ _ _ _ _ _ _ _
   | exact impl_bestSteps.mono _ _ _
   | exact impl_costsTo.mono _ _ _ _ _ _ _ _ _
   | exact LeO.none _
   | refine LeO.ite ?_ ?_
   | refine LeO.bind ?_ (fun _ => ?_)
  ·intro y0 y1 y2 y3 y4 y5 y6 y7 y8 y9 y10 y11 y12 y13 y14
   unfold impl_CheapestWay.l1
   repeat' first
   | (with_reducible exact ih0 _ _ _ _ _ _ _ _ _ _ _ _ _)
   | (with_reducible exact ih1 _ _ _ _ _ _ _ _ _ _ _ _ _ _ _)
   | (with_reducible exact impl_areCells.mono _ _ _ _ _ _ _ _ _)
   | (with_reducible exact impl_bestSteps.mono _ _ _)
   | (with_reducible exact impl_costsTo.mono _ _ _ _ _ _ _ _ _)
   | (with_reducible exact LeO.refl _)
   | (with_reducible exact LeO.none _)
   | (with_reducible refine LeO.ite ?_ ?_)
   | (with_reducible refine LeO.bind ?_ (fun _ => ?_))
   | exact ih0 _ _ _ _ _ _ _ _ _ _ _ _ _
   | exact ih1 _ _ _ _ _ _ _ _ _ _ _ _ _ _ _
   | exact impl_areCells.mono _ _ _ _ _ _ _ _ _
   | exact impl_bestSteps.mono _ _ _
   | exact impl_costsTo.mono _ _ _ _ _ _ _ _ _
   | exact LeO.none _
   | refine LeO.ite ?_ ?_
   | refine LeO.bind ?_ (fun _ => ?_)
theorem impl_CheapestWay.mono : ∀ a0 a1 a2 a3 a4 a5 a6 a7 a8 k, LeO (impl_CheapestWay.f k a0 a1 a2 a3 a4 a5 a6 a7 a8) (impl_CheapestWay.f (k + 1) a0 a1 a2 a3 a4 a5 a6 a7 a8) := by
 intro a0 a1 a2 a3 a4 a5 a6 a7 a8 k
 obtain ⟨ih0, ih1⟩ := impl_CheapestWay.mono_l k
 unfold impl_CheapestWay.f
 repeat' first
   | (with_reducible exact ih0 _ _ _ _ _ _ _ _ _ _ _ _ _)
   | (with_reducible exact ih1 _ _ _ _ _ _ _ _ _ _ _ _ _ _ _)
   | (with_reducible exact impl_areCells.mono _ _ _ _ _ _ _ _ _)
   | (with_reducible exact impl_bestSteps.mono _ _ _)
   | (with_reducible exact impl_costsTo.mono _ _ _ _ _ _ _ _ _)
   | (with_reducible exact LeO.refl _)
   | (with_reducible exact LeO.none _)
   | (with_reducible refine LeO.ite ?_ ?_)
   | (with_reducible refine LeO.bind ?_ (fun _ => ?_))
   | exact ih0 _ _ _ _ _ _ _ _ _ _ _ _ _
   | exact ih1 _ _ _ _ _ _ _ _ _ _ _ _ _ _ _
   | exact impl_areCells.mono _ _ _ _ _ _ _ _ _
   | exact impl_bestSteps.mono _ _ _
   | exact impl_costsTo.mono _ _ _ _ _ _ _ _ _
   | exact LeO.none _
   | refine LeO.ite ?_ ?_
   | refine LeO.bind ?_ (fun _ => ?_)
def impl_CheapestWay.T17 : Bool × List (List Nat × List Nat) := (true, [([], []), ([0], [0]), ([1], [1]), ([2], [2]), ([2], [2]), ([4, 2], [2, 4]), ([3, 5, 2], [2, 3, 5]), ([2, 6], [2, 6]), ([7, 2], [7]), ([8], [8]), ([8], [8]), ([9, 10, 8], [8, 9, 10]), ([11, 8], [8, 11]), ([8], [8]), ([13, 8], [8, 13]), ([8], [8]), ([14, 15, 8], [8, 14, 15]), ([12, 16, 8], [8, 12, 16]), ([17, 8], [8, 17]), ([8], [8]), ([8], [8]), ([8], [8]), ([21, 8], [8, 21]), ([20, 22, 8], [8, 20, 22]), ([23, 8], [8, 23]), ([8], [8]), ([8], [8]), ([8], [8]), ([8], [8]), ([19, 24, 25, 26, 27, 28, 8, 8], [8, 19, 24, 25, 26, 27, 28]), ([18, 29, 8], [8, 18, 29]), ([8, 30], [8, 30])])
def impl_CheapestWay.B17 : List Nat := [0, 1, 3, 7, 7, 23, 63, 127, 255, 511, 511, 2047, 4095, 511, 8703, 511, 57855, 131071, 262143, 511, 511, 511, 2097663, 7340543, 15729151, 511, 511, 511, 511, 536347135, 1073741823, 2147483647]
theorem impl_CheapestWay.tab17 : rtab .any (opsOf Tryd.f24 17) = impl_CheapestWay.T17 := by kernel_rfl
theorem impl_CheapestWay.bits17 : waitsOk impl_CheapestWay.T17.2 impl_CheapestWay.B17 = true := by kernel_rfl
def impl_CheapestWay.T21 : Bool × List (List Nat × List Nat) := (true, [([], []), ([], []), ([], []), ([1, 2], [1, 2]), ([3], [3]), ([], []), ([5], [5]), ([6], [6]), ([4, 7], [4, 7]), ([8], [8]), ([0, 0], [0]), ([9, 10, 0, 1, 2, 3, 4, 5, 6, 7, 8, 9, 10], [9]), ([11, 0, 1, 2, 3, 4, 5, 6, 7, 8, 9, 10, 11], [])])
def impl_CheapestWay.B21 : List Nat := [0, 0, 0, 6, 14, 0, 32, 96, 254, 510, 1, 2047, 4095]
theorem impl_CheapestWay.tab21 : rtab .any (opsOf Tryd.f24 21) = impl_CheapestWay.T21 := by kernel_rfl
theorem impl_CheapestWay.bits21 : waitsOk impl_CheapestWay.T21.2 impl_CheapestWay.B21 = true := by kernel_rfl
set_option maxHeartbeats 8000000 in
set_option maxRecDepth 100000 in
theorem impl_CheapestWay.calls (k : Nat) (a0_0 : Int) (a0_1 : Int) (A0_2 : Option Addr) (c0_2 : Nat) (l0_2 : List Int) (a0_3 : Int) (a0_4 : Int) (a0_5 : Int) (a0_6 : Int) (a1 : Int) (a2 : Int) (r1 : List Int) (r2 : Int) (r3 : Bool) (w : World) (hr0_2 : Kd.C (Kd.int .i64) w A0_2 l0_2.length l0_2) (hc0_2 : l0_2.length ≤ c0_2) (h : impl_CheapestWay.f k a0_0 a0_1 l0_2 a0_3 a0_4 a0_5 a0_6 a1 a2 = some (r1, r2, r3)) (hG : Laid w) :
  Calls Tryd.prog 24 #[.agg #[.int .i64 a0_0, .int .i64 a0_1, .slice A0_2 l0_2.length c0_2, .int .i64 a0_3, .int .i64 a0_4, .int .i64 a0_5, .int .i64 a0_6], .int .i64 a1, .int .i64 a2] w fun e w' => ∃ v0_ : Value, e = .returned (.tuple #[v0_, .int .i64 r2, .bool r3]) ∧ Kd.R (Kd.int .i64) 3 w' w.heap.size (fun _ => True) v0_ r1 ∧ Below w.heap.size w w' := by
 have hu28 := Tryd.underlying28
 have HR0_2 := Aside0.mk hr0_2
 have HC0_2 := Aside0.mk hc0_2
 clear hr0_2 hc0_2
 have HB := am (Below.refl w.heap.size w)
 have HG := Aside0.mk hG
 clear hG
 have H : ((impl_areCells.f k a0_0 a0_1 l0_2 a0_3 a0_4 a0_5 a0_6 (([a1, a2] : List Int))).bind fun t235 => (if t235 = true then ((impl_costsTo.f k a0_0 a0_1 l0_2 a0_3 a0_4 a0_5 a0_6 a2).bind fun t236 => ((impl_bestSteps.f k t236 a1).bind fun t239 => (if t239 < 0 then (some (([] : List Int), 0, false)) else (impl_CheapestWay.l0 k a1 t236 t239 (([a1] : List Int)) 4 t239 a0_0 a0_1 l0_2 a0_3 a0_4 a0_5 a0_6)))) else (some (([] : List Int), 0, false)))) = some (r1, r2, r3) := h
 clear h
 obtain ⟨y232, hy232⟩ : ∃ y_ : List Int, y_ = (([a1, a2] : List Int)) := ⟨_, rfl⟩
 replace H : ((impl_areCells.f k a0_0 a0_1 l0_2 a0_3 a0_4 a0_5 a0_6 y232).bind fun t235 => (if t235 = true then ((impl_costsTo.f k a0_0 a0_1 l0_2 a0_3 a0_4 a0_5 a0_6 a2).bind fun t236 => ((impl_bestSteps.f k t236 a1).bind fun t239 => (if t239 < 0 then (some (([] : List Int), 0, false)) else (impl_CheapestWay.l0 k a1 t236 t239 (([a1] : List Int)) 4 t239 a0_0 a0_1 l0_2 a0_3 a0_4 a0_5 a0_6)))) else (some (([] : List Int), 0, false)))) = some (r1, r2, r3) := by first | (rw [hy232]; with_reducible exact H) | (have H2_ := (Option.bind_some _ _).symm.trans H; rw [hy232]; with_reducible exact H2_) | (have H2_ := (Option.bind_some _ _).symm.trans H; with_reducible exact H2_) | with_reducible exact H | (rw [hy232]; exact H) | exact H
 have Ny232 := Aside0.mk hy232
 clear hy232
 replace H := Option.bind_eq_some_iff.mp H
 obtain ⟨t235, A40, H⟩ := H
 replace H : (if t235 = true then ((impl_costsTo.f k a0_0 a0_1 l0_2 a0_3 a0_4 a0_5 a0_6 a2).bind fun t236 => ((impl_bestSteps.f k t236 a1).bind fun t239 => (if t239 < 0 then (some (([] : List Int), 0, false)) else (impl_CheapestWay.l0 k a1 t236 t239 (([a1] : List Int)) 4 t239 a0_0 a0_1 l0_2 a0_3 a0_4 a0_5 a0_6)))) else (some (([] : List Int), 0, false))) = some (r1, r2, r3) := H
 have A4 := Aside0.mk A40
 clear A40
 by_cases c5 : t235 = true
 ·subst c5
  have H1 : ((impl_costsTo.f k a0_0 a0_1 l0_2 a0_3 a0_4 a0_5 a0_6 a2).bind fun t236 => ((impl_bestSteps.f k t236 a1).bind fun t239 => (if t239 < 0 then (some (([] : List Int), 0, false)) else (impl_CheapestWay.l0 k a1 t236 t239 (([a1] : List Int)) 4 t239 a0_0 a0_1 l0_2 a0_3 a0_4 a0_5 a0_6)))) = some (r1, r2, r3) := by rw [if_pos rfl] at H; exact H
  clear H
  have H := H1
  clear H1
  replace H := Option.bind_eq_some_iff.mp H
  obtain ⟨t236, A60, H⟩ := H
  replace H : ((impl_bestSteps.f k t236 a1).bind fun t239 => (if t239 < 0 then (some (([] : List Int), 0, false)) else (impl_CheapestWay.l0 k a1 t236 t239 (([a1] : List Int)) 4 t239 a0_0 a0_1 l0_2 a0_3 a0_4 a0_5 a0_6))) = some (r1, r2, r3) := H
  have A6 := Aside0.mk A60
  clear A60
  replace H := Option.bind_eq_some_iff.mp H
  obtain ⟨t239, A70, H⟩ := H
  replace H : (if t239 < 0 then (some (([] : List Int), 0, false)) else (impl_CheapestWay.l0 k a1 t236 t239 (([a1] : List Int)) 4 t239 a0_0 a0_1 l0_2 a0_3 a0_4 a0_5 a0_6)) = some (r1, r2, r3) := H
  have A7 := Aside0.mk A70
  clear A70
  by_cases c8 : t239 < 0
  ·rw [if_pos c8] at H
   have c8b0 : decide (t239 < 0) = true := decide_eq_true c8
   clear c8
   simp only [Option.some.injEq, Prod.mk.injEq] at H
   obtain ⟨rfl, rfl, rfl⟩ := H
   go_enter Tryd.func24, Tryd.ntmps24
   go_wp2_with (first | ((with_reducible refine gate_dst (N := 3) rfl ?_); refine box_event ?hg (N := 3) ?hd (cs := #[.int .i64 a0_0, .int .i64 a0_1, .slice A0_2 l0_2.length c0_2, .int .i64 a0_3, .int .i64 a0_4, .int .i64 a0_5, .int .i64 a0_6]) (t := 28) ?hr ?_; (case hd => rfl); (case hg => rfl); (case hr => exact ze'); intro gb231 hg w9 hbox hb; have n0_ := am (below_step za' hb); have n1_ := am (hbox); have n2_ := am ((by rw [hg]; exact (below_size za') : w.heap.size ≤ gb231)); have n3_ := am ((by rw [hg]; exact (below_size za') : w.heap.size ≤ gb231)); clear HB; have HB := n0_; have BK231 := n1_; have GW231 := n2_; have GE231 := n3_; clear n0_ n1_ n2_ n3_; clear hb hbox hg; have hcz10_0 : w9.cell? ⟨gb231, 0, none⟩ = some (.int .i64 a0_0) := (blk_cell BK231.out 0).trans rfl; have hcz10_1 : w9.cell? ⟨gb231, 1, none⟩ = some (.int .i64 a0_1) := (blk_cell BK231.out 1).trans rfl; have hcz10_2 : w9.cell? ⟨gb231, 2, none⟩ = some (.slice A0_2 l0_2.length c0_2) := (blk_cell BK231.out 2).trans rfl; have hcz10_3 : w9.cell? ⟨gb231, 3, none⟩ = some (.int .i64 a0_3) := (blk_cell BK231.out 3).trans rfl; have hcz10_4 : w9.cell? ⟨gb231, 4, none⟩ = some (.int .i64 a0_4) := (blk_cell BK231.out 4).trans rfl; have hcz10_5 : w9.cell? ⟨gb231, 5, none⟩ = some (.int .i64 a0_5) := (blk_cell BK231.out 5).trans rfl; have hcz10_6 : w9.cell? ⟨gb231, 6, none⟩ = some (.int .i64 a0_6) := (blk_cell BK231.out 6).trans rfl; have hfz10_0 := blk_frozen BK231.out 0; have hfz10_1 := blk_frozen BK231.out 1; have hfz10_2 := blk_frozen BK231.out 2; have hfz10_3 := blk_frozen BK231.out 3; have hfz10_4 := blk_frozen BK231.out 4; have hfz10_5 := blk_frozen BK231.out 5; have hfz10_6 := blk_frozen BK231.out 6) | ((with_reducible refine gate_dst (N := 21) rfl ?_); refine Kd.R_lit (Kd.int .i64) _ 3 ?hg (N := 21) ?hd (xs := ([a1, a2] : List Int)) (inner := [.int .i64 a1, .int .i64 a2]) (ok := fun _ => True) (okp := fun _ => True) ?hr ?hp (fun _ hk => hk) trivial (Below.refl _ _) (Nat.le_refl _) (by simp) ?_; (case hd => rfl); (case hg => rfl); (case hr => exact ze'); (case hp => exact zw2'); intro v233 w11 ho12 hb hg_ hnew_; clear hg_ hnew_; (first | rw [← Ny232.out] at ho12 | (simp only [Int.reduceToNat] at ho12; rw [← Ny232.out] at ho12)); have n0_ := am (Kd.R_lower ho12 (below_size zh')); have n1_ := am (blk_below (g := gb231) (o := .cells #[.int .i64 a0_0, .int .i64 a0_1, .slice A0_2 l0_2.length c0_2, .int .i64 a0_3, .int .i64 a0_4, .int .i64 a0_5, .int .i64 a0_6] 28 (0, 0)) zl' hb); have n2_ := am (below_step zh' hb); clear BK231; clear HB; have HO234 := n0_; have BK231 := n1_; have HB := n2_; clear n0_ n1_ n2_; clear hb ho12; obtain ⟨Ao13, co13, eo13⟩ := Kd.R_slice HO234.out; subst eo13) | ((with_reducible refine gate_callee (f := 54) rfl ?_); refine goesL_ (some 22) rfl rfl Tryd.func54 (by kernel_rfl) rfl #[.agg #[.int .i64 a0_0, .int .i64 a0_1, .slice A0_2 l0_2.length c0_2, .int .i64 a0_3, .int .i64 a0_4, .int .i64 a0_5, .int .i64 a0_6], .slice Ao13 y232.length co13] rfl zc' ?_; (with_reducible refine (impl_areCells.calls k a0_0 a0_1 _ _ l0_2 a0_3 a0_4 a0_5 a0_6 _ _ y232 true _ ?side1 ?side2 ?side3 ?side4 A4.out).mono ?_); (case side1 => exact zb'); (case side2 => exact zn1'); (case side3 => exact zp2'); (case side4 => exact (Kd.R_reads' HO234.out).2.1); rintro e w14 ⟨rfl, hb⟩; refine ⟨_, rfl, ?_⟩; have n0_ := am (Kd.R_below zo1' hb); have n1_ := am (blk_below (g := gb231) (o := .cells #[.int .i64 a0_0, .int .i64 a0_1, .slice A0_2 l0_2.length c0_2, .int .i64 a0_3, .int .i64 a0_4, .int .i64 a0_5, .int .i64 a0_6] 28 (0, 0)) zl' hb); have n2_ := am (below_step zh' hb); clear HO234; clear BK231; clear HB; have HO234 := n0_; have BK231 := n1_; have HB := n2_; clear n0_ n1_ n2_; (try clear hb); (try clear hb2); (try clear hk); (try clear hi); have hcz15_0 : w14.cell? ⟨gb231, 0, none⟩ = some (.int .i64 a0_0) := (blk_cell BK231.out 0).trans rfl; have hcz15_1 : w14.cell? ⟨gb231, 1, none⟩ = some (.int .i64 a0_1) := (blk_cell BK231.out 1).trans rfl; have hcz15_2 : w14.cell? ⟨gb231, 2, none⟩ = some (.slice A0_2 l0_2.length c0_2) := (blk_cell BK231.out 2).trans rfl; have hcz15_3 : w14.cell? ⟨gb231, 3, none⟩ = some (.int .i64 a0_3) := (blk_cell BK231.out 3).trans rfl; have hcz15_4 : w14.cell? ⟨gb231, 4, none⟩ = some (.int .i64 a0_4) := (blk_cell BK231.out 4).trans rfl; have hcz15_5 : w14.cell? ⟨gb231, 5, none⟩ = some (.int .i64 a0_5) := (blk_cell BK231.out 5).trans rfl; have hcz15_6 : w14.cell? ⟨gb231, 6, none⟩ = some (.int .i64 a0_6) := (blk_cell BK231.out 6).trans rfl; have hfz15_0 := blk_frozen BK231.out 0; have hfz15_1 := blk_frozen BK231.out 1; have hfz15_2 := blk_frozen BK231.out 2; have hfz15_3 := blk_frozen BK231.out 3; have hfz15_4 := blk_frozen BK231.out 4; have hfz15_5 := blk_frozen BK231.out 5; have hfz15_6 := blk_frozen BK231.out 6) | ((with_reducible refine gate_callee (f := 58) rfl ?_); refine goesL_ (some 26) rfl rfl Tryd.func58 (by kernel_rfl) rfl #[.agg #[.int .i64 a0_0, .int .i64 a0_1, .slice A0_2 l0_2.length c0_2, .int .i64 a0_3, .int .i64 a0_4, .int .i64 a0_5, .int .i64 a0_6], .int .i64 a2] rfl zc' ?_; (with_reducible refine (impl_costsTo.calls k a0_0 a0_1 _ _ l0_2 a0_3 a0_4 a0_5 a0_6 a2 t236 _ ?side1 ?side2 A6.out ?sideG).mono ?_); (case sideG => exact laid_below HG.out zh'); (case side1 => exact zb'); (case side2 => exact zn1'); rintro e w16 ⟨v237, rfl, ho0, hb⟩; refine ⟨_, rfl, ?_⟩; have n0_ := am (Kd.R_below zo1' hb); have n1_ := am (Kd.N_lower (Kd.N_mono (ok' := fun k_ => some k_ ≠ (.slice Ao13 y232.length co13 : Value).ownBlock ∧ k_ ≠ gb231) ho0 (fun k_ hk_ => ⟨(Kd.fresh' (Kd.R_lt zo1') k_ hk_), (Kd.freshB (g := gb231) (o := .cells #[.int .i64 a0_0, .int .i64 a0_1, .slice A0_2 l0_2.length c0_2, .int .i64 a0_3, .int .i64 a0_4, .int .i64 a0_5, .int .i64 a0_6] 28 (0, 0)) zl' k_ hk_)⟩)) (below_size zh')); have n2_ := am (blk_below (g := gb231) (o := .cells #[.int .i64 a0_0, .int .i64 a0_1, .slice A0_2 l0_2.length c0_2, .int .i64 a0_3, .int .i64 a0_4, .int .i64 a0_5, .int .i64 a0_6] 28 (0, 0)) zl' hb); have n3_ := am (below_step zh' hb); clear HO234; clear BK231; clear HB; have HO234 := n0_; have HO238 := n1_; have BK231 := n2_; have HB := n3_; clear n0_ n1_ n2_ n3_; (try clear hb); (try clear hb2); (try clear hk); (try clear hi); (try clear ho0); obtain ⟨Ao17, co17, eo17⟩ := Kd.N_slice HO238.out; subst eo17) | ((with_reducible refine gate_callee (f := 59) rfl ?_); refine goesL_ (some 29) rfl rfl Tryd.func59 (by kernel_rfl) rfl #[.slice Ao17 t236.length co17, .int .i64 a1] rfl zc' ?_; (with_reducible refine (impl_bestSteps.calls k _ _ t236 a1 t239 _ ?side1 ?side2 A7.out).mono ?_); (case side1 => exact zt3'); (case side2 => exact (Kd.N_reads' HO238.out).2.1); rintro e w' ⟨rfl, ⟨nd, rfl⟩⟩; refine ⟨_, rfl, ?_⟩))
   go_ret3
   exact ⟨_, by first | rfl | (simp [errW_none, errW_some] <;> rfl) | (simp [*, errW_none, errW_some] <;> rfl), by first | exact Kd.R_nil _ _ _ _ _ | exact Kd.N_nil _ _ _ _ _ | exact Kd.V_nil _ _ _ _ _ | exact Kd.Q_nil _ _ _ _ _ | exact Kd.S_nil _ _ _ _ _, by repeat (first | (with_reducible first | exact HB.out | apply ba | apply bn | apply below_drew1 | refine below_set ?_ GE231.out) | exact HB.out)⟩
  ·rw [if_neg c8] at H
   have c8b0 : decide (t239 < 0) = false := decide_eq_false c8
   clear c8
   obtain ⟨y240, hy240⟩ : ∃ y_ : List Int, y_ = (([a1] : List Int)) := ⟨_, rfl⟩
   replace H : (impl_CheapestWay.l0 k a1 t236 t239 y240 4 t239 a0_0 a0_1 l0_2 a0_3 a0_4 a0_5 a0_6) = some (r1, r2, r3) := by first | (rw [hy240]; with_reducible exact H) | (have H2_ := (Option.bind_some _ _).symm.trans H; rw [hy240]; with_reducible exact H2_) | (have H2_ := (Option.bind_some _ _).symm.trans H; with_reducible exact H2_) | with_reducible exact H | (rw [hy240]; exact H) | exact H
   have Ny240 := Aside0.mk hy240
   clear hy240
   have H' := Aside0.mk H
   clear H
   go_enter Tryd.func24, Tryd.ntmps24
   go_wp2_with (first | ((with_reducible refine gate_dst (N := 3) rfl ?_); refine box_event ?hg (N := 3) ?hd (cs := #[.int .i64 a0_0, .int .i64 a0_1, .slice A0_2 l0_2.length c0_2, .int .i64 a0_3, .int .i64 a0_4, .int .i64 a0_5, .int .i64 a0_6]) (t := 28) ?hr ?_; (case hd => rfl); (case hg => rfl); (case hr => exact ze'); intro gb231 hg w18 hbox hb; have n0_ := am (below_step za' hb); have n1_ := am (hbox); have n2_ := am ((by rw [hg]; exact (below_size za') : w.heap.size ≤ gb231)); have n3_ := am ((by rw [hg]; exact (below_size za') : w.heap.size ≤ gb231)); clear HB; have HB := n0_; have BK231 := n1_; have GW231 := n2_; have GE231 := n3_; clear n0_ n1_ n2_ n3_; clear hb hbox hg; have hcz19_0 : w18.cell? ⟨gb231, 0, none⟩ = some (.int .i64 a0_0) := (blk_cell BK231.out 0).trans rfl; have hcz19_1 : w18.cell? ⟨gb231, 1, none⟩ = some (.int .i64 a0_1) := (blk_cell BK231.out 1).trans rfl; have hcz19_2 : w18.cell? ⟨gb231, 2, none⟩ = some (.slice A0_2 l0_2.length c0_2) := (blk_cell BK231.out 2).trans rfl; have hcz19_3 : w18.cell? ⟨gb231, 3, none⟩ = some (.int .i64 a0_3) := (blk_cell BK231.out 3).trans rfl; have hcz19_4 : w18.cell? ⟨gb231, 4, none⟩ = some (.int .i64 a0_4) := (blk_cell BK231.out 4).trans rfl; have hcz19_5 : w18.cell? ⟨gb231, 5, none⟩ = some (.int .i64 a0_5) := (blk_cell BK231.out 5).trans rfl; have hcz19_6 : w18.cell? ⟨gb231, 6, none⟩ = some (.int .i64 a0_6) := (blk_cell BK231.out 6).trans rfl; have hfz19_0 := blk_frozen BK231.out 0; have hfz19_1 := blk_frozen BK231.out 1; have hfz19_2 := blk_frozen BK231.out 2; have hfz19_3 := blk_frozen BK231.out 3; have hfz19_4 := blk_frozen BK231.out 4; have hfz19_5 := blk_frozen BK231.out 5; have hfz19_6 := blk_frozen BK231.out 6) | ((with_reducible refine gate_dst (N := 21) rfl ?_); refine Kd.R_lit (Kd.int .i64) _ 3 ?hg (N := 21) ?hd (xs := ([a1, a2] : List Int)) (inner := [.int .i64 a1, .int .i64 a2]) (ok := fun _ => True) (okp := fun _ => True) ?hr ?hp (fun _ hk => hk) trivial (Below.refl _ _) (Nat.le_refl _) (by simp) ?_; (case hd => rfl); (case hg => rfl); (case hr => exact ze'); (case hp => exact zw2'); intro v233 w20 ho21 hb hg_ hnew_; clear hg_ hnew_; (first | rw [← Ny232.out] at ho21 | (simp only [Int.reduceToNat] at ho21; rw [← Ny232.out] at ho21)); have n0_ := am (Kd.R_lower ho21 (below_size zh')); have n1_ := am (blk_below (g := gb231) (o := .cells #[.int .i64 a0_0, .int .i64 a0_1, .slice A0_2 l0_2.length c0_2, .int .i64 a0_3, .int .i64 a0_4, .int .i64 a0_5, .int .i64 a0_6] 28 (0, 0)) zl' hb); have n2_ := am (below_step zh' hb); clear BK231; clear HB; have HO234 := n0_; have BK231 := n1_; have HB := n2_; clear n0_ n1_ n2_; clear hb ho21; obtain ⟨Ao22, co22, eo22⟩ := Kd.R_slice HO234.out; subst eo22) | ((with_reducible refine gate_callee (f := 54) rfl ?_); refine goesL_ (some 22) rfl rfl Tryd.func54 (by kernel_rfl) rfl #[.agg #[.int .i64 a0_0, .int .i64 a0_1, .slice A0_2 l0_2.length c0_2, .int .i64 a0_3, .int .i64 a0_4, .int .i64 a0_5, .int .i64 a0_6], .slice Ao22 y232.length co22] rfl zc' ?_; (with_reducible refine (impl_areCells.calls k a0_0 a0_1 _ _ l0_2 a0_3 a0_4 a0_5 a0_6 _ _ y232 true _ ?side1 ?side2 ?side3 ?side4 A4.out).mono ?_); (case side1 => exact zb'); (case side2 => exact zn1'); (case side3 => exact zp2'); (case side4 => exact (Kd.R_reads' HO234.out).2.1); rintro e w23 ⟨rfl, hb⟩; refine ⟨_, rfl, ?_⟩; have n0_ := am (Kd.R_below zo1' hb); have n1_ := am (blk_below (g := gb231) (o := .cells #[.int .i64 a0_0, .int .i64 a0_1, .slice A0_2 l0_2.length c0_2, .int .i64 a0_3, .int .i64 a0_4, .int .i64 a0_5, .int .i64 a0_6] 28 (0, 0)) zl' hb); have n2_ := am (below_step zh' hb); clear HO234; clear BK231; clear HB; have HO234 := n0_; have BK231 := n1_; have HB := n2_; clear n0_ n1_ n2_; (try clear hb); (try clear hb2); (try clear hk); (try clear hi); have hcz24_0 : w23.cell? ⟨gb231, 0, none⟩ = some (.int .i64 a0_0) := (blk_cell BK231.out 0).trans rfl; have hcz24_1 : w23.cell? ⟨gb231, 1, none⟩ = some (.int .i64 a0_1) := (blk_cell BK231.out 1).trans rfl; have hcz24_2 : w23.cell? ⟨gb231, 2, none⟩ = some (.slice A0_2 l0_2.length c0_2) := (blk_cell BK231.out 2).trans rfl; have hcz24_3 : w23.cell? ⟨gb231, 3, none⟩ = some (.int .i64 a0_3) := (blk_cell BK231.out 3).trans rfl; have hcz24_4 : w23.cell? ⟨gb231, 4, none⟩ = some (.int .i64 a0_4) := (blk_cell BK231.out 4).trans rfl; have hcz24_5 : w23.cell? ⟨gb231, 5, none⟩ = some (.int .i64 a0_5) := (blk_cell BK231.out 5).trans rfl; have hcz24_6 : w23.cell? ⟨gb231, 6, none⟩ = some (.int .i64 a0_6) := (blk_cell BK231.out 6).trans rfl; have hfz24_0 := blk_frozen BK231.out 0; have hfz24_1 := blk_frozen BK231.out 1; have hfz24_2 := blk_frozen BK231.out 2; have hfz24_3 := blk_frozen BK231.out 3; have hfz24_4 := blk_frozen BK231.out 4; have hfz24_5 := blk_frozen BK231.out 5; have hfz24_6 := blk_frozen BK231.out 6) | ((with_reducible refine gate_callee (f := 58) rfl ?_); refine goesL_ (some 26) rfl rfl Tryd.func58 (by kernel_rfl) rfl #[.agg #[.int .i64 a0_0, .int .i64 a0_1, .slice A0_2 l0_2.length c0_2, .int .i64 a0_3, .int .i64 a0_4, .int .i64 a0_5, .int .i64 a0_6], .int .i64 a2] rfl zc' ?_; (with_reducible refine (impl_costsTo.calls k a0_0 a0_1 _ _ l0_2 a0_3 a0_4 a0_5 a0_6 a2 t236 _ ?side1 ?side2 A6.out ?sideG).mono ?_); (case sideG => exact laid_below HG.out zh'); (case side1 => exact zb'); (case side2 => exact zn1'); rintro e w25 ⟨v237, rfl, ho0, hb⟩; refine ⟨_, rfl, ?_⟩; have n0_ := am (Kd.R_below zo1' hb); have n1_ := am (Kd.N_lower (Kd.N_mono (ok' := fun k_ => some k_ ≠ (.slice Ao22 y232.length co22 : Value).ownBlock ∧ k_ ≠ gb231) ho0 (fun k_ hk_ => ⟨(Kd.fresh' (Kd.R_lt zo1') k_ hk_), (Kd.freshB (g := gb231) (o := .cells #[.int .i64 a0_0, .int .i64 a0_1, .slice A0_2 l0_2.length c0_2, .int .i64 a0_3, .int .i64 a0_4, .int .i64 a0_5, .int .i64 a0_6] 28 (0, 0)) zl' k_ hk_)⟩)) (below_size zh')); have n2_ := am (blk_below (g := gb231) (o := .cells #[.int .i64 a0_0, .int .i64 a0_1, .slice A0_2 l0_2.length c0_2, .int .i64 a0_3, .int .i64 a0_4, .int .i64 a0_5, .int .i64 a0_6] 28 (0, 0)) zl' hb); have n3_ := am (below_step zh' hb); clear HO234; clear BK231; clear HB; have HO234 := n0_; have HO238 := n1_; have BK231 := n2_; have HB := n3_; clear n0_ n1_ n2_ n3_; (try clear hb); (try clear hb2); (try clear hk); (try clear hi); (try clear ho0); obtain ⟨Ao26, co26, eo26⟩ := Kd.N_slice HO238.out; subst eo26) | ((with_reducible refine gate_callee (f := 59) rfl ?_); refine goesL_ (some 29) rfl rfl Tryd.func59 (by kernel_rfl) rfl #[.slice Ao26 t236.length co26, .int .i64 a1] rfl zc' ?_; (with_reducible refine (impl_bestSteps.calls k _ _ t236 a1 t239 _ ?side1 ?side2 A7.out).mono ?_); (case side1 => exact zt3'); (case side2 => exact (Kd.N_reads' HO238.out).2.1); rintro e w' ⟨rfl, ⟨nd, rfl⟩⟩; refine ⟨_, rfl, ?_⟩) | ((with_reducible refine gate_dst (N := 33) rfl ?_); refine Kd.R_lit (Kd.int .i64) _ 3 ?hg (N := 33) ?hd (xs := ([a1] : List Int)) (inner := [.int .i64 a1]) (ok := fun _ => True) (okp := fun _ => True) ?hr ?hp (fun _ hk => hk) trivial (Below.refl _ _) (Nat.le_refl _) (by simp) ?_; (case hd => rfl); (case hg => rfl); (case hr => exact ze'); (case hp => exact (Reps.one (show Kd.M (Kd.int .i64) _ _ _ a1 [.int .i64 a1] from rfl) (Reps.none _ _))); intro v241 w27 ho28 hb hg_ hnew_; clear hg_ hnew_; (first | rw [← Ny240.out] at ho28 | (simp only [Int.reduceToNat] at ho28; rw [← Ny240.out] at ho28)); have n0_ := am (Kd.R_elder' zo1' (Kd.R_base ho28) hb); have n1_ := am (Kd.N_elder' (by (with_reducible repeat (first | apply Kd.N_alloc | apply Kd.N_drewN | apply Kd.N_drew)); exact HO238.out) (Kd.R_base ho28) hb); have n2_ := am (Kd.R_lower (Kd.R_new' ho28 (Kd.R_lt zo1')) (below_size zh')); have n3_ := am (blk_below (g := gb231) (o := .cells #[.int .i64 a0_0, .int .i64 a0_1, .slice A0_2 l0_2.length c0_2, .int .i64 a0_3, .int .i64 a0_4, .int .i64 a0_5, .int .i64 a0_6] 28 (0, 0)) zl' hb); have n4_ := am (below_step zh' hb); clear HO234; clear HO238; clear BK231; clear HB; have HO234 := n0_; have HO238 := n1_; have HO242 := n2_; have BK231 := n3_; have HB := n4_; clear n0_ n1_ n2_ n3_ n4_; clear hb ho28))
   go_loopg [11, 12, 13] k (fun kq v11 v12 v13 w' => ∃ (x11_1 : List Int) (x12_1 : Int) (x13_1 : Int), v12 = .int .i64 x12_1 ∧ v13 = .int .i64 x13_1 ∧ Aside0 (impl_CheapestWay.l0 kq a1 t236 t239 x11_1 x12_1 x13_1 a0_0 a0_1 l0_2 a0_3 a0_4 a0_5 a0_6 = some (r1, r2, r3)) ∧ Aside0 (kq ≤ k) ∧ Aside0 (Kd.N (Kd.slice 3 (Kd.int .i64)) 22 w' w.heap.size (fun k_ => some k_ ≠ (v11 : Value).ownBlock ∧ k_ ≠ gb231) (.slice Ao26 t236.length co26) t236) ∧ Aside0 (Kd.R (Kd.int .i64) 3 w' w.heap.size (fun _ => True) v11 x11_1) ∧ Aside0 (w'.heap[gb231]? = some (.cells #[.int .i64 a0_0, .int .i64 a0_1, (.slice A0_2 l0_2.length c0_2), .int .i64 a0_3, .int .i64 a0_4, .int .i64 a0_5, .int .i64 a0_6] 28 (0, 0))) ∧ Aside0 (Below w.heap.size w w'))
   case atStart => exact ⟨(y240), (4), (t239), zd', zd', H', ⟨Nat.le_refl _⟩, ⟨by (with_reducible repeat (first | apply Kd.N_alloc | apply Kd.N_drewN | apply Kd.N_drew)); exact Kd.N_mono HO238.out (fun _ hk => ⟨hk.2, hk.1.2⟩)⟩, ⟨by (with_reducible repeat (first | apply Kd.R_alloc | apply Kd.R_drewN | apply Kd.R_drew)); exact Kd.R_mono HO242.out (fun _ hk => trivial)⟩, ⟨zl'⟩, ⟨zh'⟩⟩
   case round =>
    clear H'
    try clear c2
    try clear p2
    try clear c5
    try clear c8
    try clear c8b0
    try clear c24
    try clear hcz10_0
    try clear hcz10_1
    try clear hcz10_2
    try clear hcz10_3
    try clear hcz10_4
    try clear hcz10_5
    try clear hcz10_6
    try clear hcz15_0
    try clear hcz15_1
    try clear hcz15_2
    try clear hcz15_3
    try clear hcz15_4
    try clear hcz15_5
    try clear hcz15_6
    try clear hcz19_0
    try clear hcz19_1
    try clear hcz19_2
    try clear hcz19_3
    try clear hcz19_4
    try clear hcz19_5
    try clear hcz19_6
    try clear hcz24_0
    try clear hcz24_1
    try clear hcz24_2
    try clear hcz24_3
    try clear hcz24_4
    try clear hcz24_5
    try clear hcz24_6
    try clear hfz10_0
    try clear hfz10_1
    try clear hfz10_2
    try clear hfz10_3
    try clear hfz10_4
    try clear hfz10_5
    try clear hfz10_6
    try clear hfz15_0
    try clear hfz15_1
    try clear hfz15_2
    try clear hfz15_3
    try clear hfz15_4
    try clear hfz15_5
    try clear hfz15_6
    try clear hfz19_0
    try clear hfz19_1
    try clear hfz19_2
    try clear hfz19_3
    try clear hfz19_4
    try clear hfz19_5
    try clear hfz19_6
    try clear hfz24_0
    try clear hfz24_1
    try clear hfz24_2
    try clear hfz24_3
    try clear hfz24_4
    try clear hfz24_5
    try clear hfz24_6
    obtain ⟨x11_1, x12_1, x13_1, rfl, rfl, HA, HK1, HO_9, HO_11, BK231, HB⟩ := hrel
    cases gk with
    | zero => exact absurd HA.out (by simp [impl_CheapestWay.l0])
    | succ k1 =>
     have H := HA.out
     clear HA
     simp only [impl_CheapestWay.l0] at H
     by_cases c29 : x13_1 > 0
     ·rw [if_pos c29] at H
      have c29b0 : decide (0 < x13_1) = true := decide_eq_true c29
      clear c29
      obtain ⟨ji30, hji30⟩ : ∃ j_ : Int, (wrap64 ((x11_1.length : Int) - 1)) = j_ := ⟨_, rfl⟩
      replace H : (if 0 ≤ (ji30) then (if (ji30) < (x11_1.length : Int) then (impl_CheapestWay.l1 k1 a1 t236 t239 x11_1 x12_1 x13_1 (rd x11_1 (ji30)) 0 a0_0 a0_1 l0_2 a0_3 a0_4 a0_5 a0_6) else (none)) else (none)) = some (r1, r2, r3) := by first | (rw [hji30] at H; exact H) | (simp only [hji30] at H ⊢; exact H)
      have hji30w : (IntKind.i64.wrap ((x11_1.length : Int) - 1)) = ji30 := (i64_w _).trans hji30
      by_cases c31 : 0 ≤ (ji30)
      ·rw [if_pos c31] at H
       have c31b0 : decide (0 ≤ (ji30)) = true := decide_eq_true c31
       clear c31
       by_cases c32 : (ji30) < (x11_1.length : Int)
       ·rw [if_pos c32] at H
        have c32b0 : decide ((ji30) < (x11_1.length : Int)) = true := decide_eq_true c32
        clear c32
        have H' := Aside0.mk H
        clear H
        obtain ⟨Ao33, co33, eo33⟩ := Kd.R_slice HO_11.out
        subst eo33
        have p245 : 0 ≤ ((ji30) : Int) := odt
        have q245 : (ji30) < (x11_1.length : Int) := odt
        obtain ⟨ad245, e245, hx245_0⟩ := Kd.at_int (Kd.R_reads' HO_11.out).2.2 (ji30) p245 q245
        cases e245
        replace p245 := eq_true p245
        replace q245 := eq_true q245
        obtain ⟨hgl0, hgl1, hgl2, hgl3⟩ := laid_below HG.out HB.out
        go_wp2
        go_loopg [11, 12, 46] k1 (fun kq v11 v12 v46 w' => ∃ (x11_2 : List Int) (x12_2 : Int) (x46_2 : Int), v12 = .int .i64 x12_2 ∧ v46 = .int .i64 x46_2 ∧ Aside0 (impl_CheapestWay.l1 kq a1 t236 t239 x11_2 x12_2 x13_1 (rd x11_1 (ji30)) x46_2 a0_0 a0_1 l0_2 a0_3 a0_4 a0_5 a0_6 = some (r1, r2, r3)) ∧ Aside0 (kq ≤ k1 ∧ 0 ≤ x46_2) ∧ Aside0 (Kd.N (Kd.slice 3 (Kd.int .i64)) 22 w' w.heap.size (fun k_ => some k_ ≠ (v11 : Value).ownBlock ∧ k_ ≠ gb231) (.slice Ao26 t236.length co26) t236) ∧ Aside0 (Kd.R (Kd.int .i64) 3 w' w.heap.size (fun _ => True) v11 x11_2) ∧ Aside0 (w'.heap[gb231]? = some (.cells #[.int .i64 a0_0, .int .i64 a0_1, (.slice A0_2 l0_2.length c0_2), .int .i64 a0_3, .int .i64 a0_4, .int .i64 a0_5, .int .i64 a0_6] 28 (0, 0))) ∧ Aside0 (Below w.heap.size w w'))
        case atStart => exact ⟨(x11_1), (x12_1), (0), zd', zd', H', ⟨Nat.le_refl _, by decide⟩, ⟨zc1'⟩, ⟨za1'⟩, ⟨zl'⟩, ⟨zh'⟩⟩
        case round =>
         clear H'
         try clear c2
         try clear p2
         try clear q2
         try clear hx2
         try clear c3
         try clear c5
         try clear p6
         try clear c8
         try clear c8b0
         try clear c24
         try clear p24
         try clear q24
         try clear hx24
         try clear c29
         try clear c29b0
         try clear c31
         try clear c31b0
         try clear c32
         try clear c32b0
         try clear hcz10_0
         try clear hcz10_1
         try clear hcz10_2
         try clear hcz10_3
         try clear hcz10_4
         try clear hcz10_5
         try clear hcz10_6
         try clear hcz15_0
         try clear hcz15_1
         try clear hcz15_2
         try clear hcz15_3
         try clear hcz15_4
         try clear hcz15_5
         try clear hcz15_6
         try clear hcz19_0
         try clear hcz19_1
         try clear hcz19_2
         try clear hcz19_3
         try clear hcz19_4
         try clear hcz19_5
         try clear hcz19_6
         try clear hcz24_0
         try clear hcz24_1
         try clear hcz24_2
         try clear hcz24_3
         try clear hcz24_4
         try clear hcz24_5
         try clear hcz24_6
         try clear hfz10_0
         try clear hfz10_1
         try clear hfz10_2
         try clear hfz10_3
         try clear hfz10_4
         try clear hfz10_5
         try clear hfz10_6
         try clear hfz15_0
         try clear hfz15_1
         try clear hfz15_2
         try clear hfz15_3
         try clear hfz15_4
         try clear hfz15_5
         try clear hfz15_6
         try clear hfz19_0
         try clear hfz19_1
         try clear hfz19_2
         try clear hfz19_3
         try clear hfz19_4
         try clear hfz19_5
         try clear hfz19_6
         try clear hfz24_0
         try clear hfz24_1
         try clear hfz24_2
         try clear hfz24_3
         try clear hfz24_4
         try clear hfz24_5
         try clear hfz24_6
         try clear hx245_0
         try clear p2
         try clear p245
         try clear q245
         obtain ⟨x11_2, x12_2, x46_2, rfl, rfl, HA, HK2, HO_9, HO_11, BK231, HB⟩ := hrel
         cases gk with
         | zero => exact absurd HA.out (by simp [impl_CheapestWay.l1])
         | succ k2 =>
          have H := HA.out
          clear HA
          simp only [impl_CheapestWay.l1] at H
          by_cases c34 : x46_2 < 4
          ·rw [if_pos c34] at H
           have HX4 := am (side_next x46_2 HK2.out.2 c34)
           have hidx := run_side x46_2 HK2.out.2 c34
           have c34b0 : decide (x46_2 < 4) = true := decide_eq_true c34
           clear c34
           replace H := Option.bind_eq_some_iff.mp H
           obtain ⟨t246, A350, H⟩ := H
           replace H : (if t246 ≥ 0 then (if x46_2 = (wrap64 (3 - x12_2)) then (impl_CheapestWay.l1 k2 a1 t236 t239 x11_2 x12_2 x13_1 (rd x11_1 (ji30)) (wrap64 (x46_2 + 1)) a0_0 a0_1 l0_2 a0_3 a0_4 a0_5 a0_6) else (if 0 ≤ x13_1 then (if x13_1 < (t236.length : Int) then (if 0 ≤ (wrap64 ((wrap64 ((rd x11_1 (ji30)) * 5)) + x12_2)) then (if (wrap64 ((wrap64 ((rd x11_1 (ji30)) * 5)) + x12_2)) < ((rd_L1 t236 x13_1).length : Int) then (if 0 ≤ (wrap64 (x13_1 - 1)) then (if (wrap64 (x13_1 - 1)) < (t236.length : Int) then ((impl_moveCost.f a0_0 a0_1 l0_2 a0_3 a0_4 a0_5 a0_6 (rd_L1 t236 (wrap64 (x13_1 - 1))) (rd x11_1 (ji30)) t246 x12_2 x46_2).bind fun t250 => (if (rd (rd_L1 t236 x13_1) (wrap64 ((wrap64 ((rd x11_1 (ji30)) * 5)) + x12_2))) = t250 then (if x11_2.length < 17592186044416 then (impl_CheapestWay.l0 k2 a1 t236 t239 (x11_2 ++ [t246]) x46_2 (wrap64 (x13_1 - 1)) a0_0 a0_1 l0_2 a0_3 a0_4 a0_5 a0_6) else (none)) else (impl_CheapestWay.l1 k2 a1 t236 t239 x11_2 x12_2 x13_1 (rd x11_1 (ji30)) (wrap64 (x46_2 + 1)) a0_0 a0_1 l0_2 a0_3 a0_4 a0_5 a0_6))) else (none)) else (none)) else (none)) else (none)) else (none)) else (none))) else (impl_CheapestWay.l1 k2 a1 t236 t239 x11_2 x12_2 x13_1 (rd x11_1 (ji30)) (wrap64 (x46_2 + 1)) a0_0 a0_1 l0_2 a0_3 a0_4 a0_5 a0_6)) = some (r1, r2, r3) := H
           have A35 := Aside0.mk A350
           clear A350
           by_cases c36 : t246 ≥ 0
           ·rw [if_pos c36] at H
            have c36b0 : decide (0 ≤ t246) = true := decide_eq_true c36
            clear c36
            by_cases c37 : x46_2 = (wrap64 (3 - x12_2))
            ·rw [if_pos c37] at H
             have c37b0 : (x46_2 == (wrap64 (3 - x12_2))) = true := beq_iff_eq.mpr c37
             have c37b1 : (x46_2 != (wrap64 (3 - x12_2))) = false := bne_eq_false_iff_eq.mpr c37
             clear c37
             have H' := Aside0.mk H
             clear H
             have hcz38_0 : wr.cell? ⟨gb231, 0, none⟩ = some (.int .i64 a0_0) := (blk_cell BK231.out 0).trans rfl
             have hcz38_1 : wr.cell? ⟨gb231, 1, none⟩ = some (.int .i64 a0_1) := (blk_cell BK231.out 1).trans rfl
             have hcz38_2 : wr.cell? ⟨gb231, 2, none⟩ = some (.slice A0_2 l0_2.length c0_2) := (blk_cell BK231.out 2).trans rfl
             have hcz38_3 : wr.cell? ⟨gb231, 3, none⟩ = some (.int .i64 a0_3) := (blk_cell BK231.out 3).trans rfl
             have hcz38_4 : wr.cell? ⟨gb231, 4, none⟩ = some (.int .i64 a0_4) := (blk_cell BK231.out 4).trans rfl
             have hcz38_5 : wr.cell? ⟨gb231, 5, none⟩ = some (.int .i64 a0_5) := (blk_cell BK231.out 5).trans rfl
             have hcz38_6 : wr.cell? ⟨gb231, 6, none⟩ = some (.int .i64 a0_6) := (blk_cell BK231.out 6).trans rfl
             have hfz38_0 := blk_frozen BK231.out 0
             have hfz38_1 := blk_frozen BK231.out 1
             have hfz38_2 := blk_frozen BK231.out 2
             have hfz38_3 := blk_frozen BK231.out 3
             have hfz38_4 := blk_frozen BK231.out 4
             have hfz38_5 := blk_frozen BK231.out 5
             have hfz38_6 := blk_frozen BK231.out 6
             try go_wp2_with (first | ((with_reducible refine gate_callee (f := 61) rfl ?_); refine goesL_ (some 52) rfl rfl Tryd.func61 (by kernel_rfl) rfl #[.agg #[.int .i64 a0_0, .int .i64 a0_1, .slice A0_2 l0_2.length c0_2, .int .i64 a0_3, .int .i64 a0_4, .int .i64 a0_5, .int .i64 a0_6], .int .i64 (rd x11_1 (ji30)), .int .i64 x46_2] rfl za2' ?_; (with_reducible refine (impl_sideOf.calls a0_0 a0_1 _ _ l0_2 a0_3 a0_4 a0_5 a0_6 (rd x11_1 (ji30)) x46_2 t246 _ ?side1 ?side2 A35.out).mono ?_); (case side1 => exact zb'); (case side2 => exact zn1'); rintro e w39 ⟨rfl, hb⟩; refine ⟨_, rfl, ?_⟩; have n0_ := am (Kd.N_below zc1' hb); have n1_ := am (Kd.R_below za1' hb); have n2_ := am (blk_below (g := gb231) (o := .cells #[.int .i64 a0_0, .int .i64 a0_1, .slice A0_2 l0_2.length c0_2, .int .i64 a0_3, .int .i64 a0_4, .int .i64 a0_5, .int .i64 a0_6] 28 (0, 0)) zl' hb); have n3_ := am (below_step zh' hb); clear HO_9; clear HO_11; clear BK231; clear HB; have HO_9 := n0_; have HO_11 := n1_; have BK231 := n2_; have HB := n3_; clear n0_ n1_ n2_ n3_; (try clear hb); (try clear hb2); (try clear hk); (try clear hi)))
             have n0_ := am (Kd.N_drew HO_9.out)
             have n1_ := am (Kd.R_drew HO_11.out)
             have n2_ := am (blk_drew BK231.out)
             have n3_ := am (below_drew1 HB.out)
             clear HO_9
             clear HO_11
             clear BK231
             clear HB
             have HO_9 := n0_
             have HO_11 := n1_
             have BK231 := n2_
             have HB := n3_
             clear n0_ n1_ n2_ n3_
             refine start_ (n := 32) (S := fun w' => True) (ds := []) m0_ (by kernel_rfl) rfl rfl trivial (fun hHeld => ?_); refine with_tabW impl_CheapestWay.tab17 impl_CheapestWay.bits17 (fun HT_ HW_ => ?_)
             generalize w39.drew = w40 at HO_9 HO_11 BK231 HB hHeld ⊢
             refine pure_ (i := 0) (N := some 53) (v := ?_) (a' := ?_) m1_ rfl rfl (any_of HT_.out (by kernel_rfl)) (fun _ _ _ h => h) (Or.inl ⟨by rfl, ?_⟩) ?_ ?_
             rotate_left
             ·intro w'
              go_simp
              with_reducible rfl
             rotate_left
             ·simp only [Act.put, s1, s2, s3, i64_w, i32_w]
              rfl
             refine pure_ (i := 1) (N := some 54) (v := ?_) (a' := ?_) m2_ rfl rfl (any_of HT_.out (by kernel_rfl)) (fun _ _ _ h => h) (Or.inl ⟨by rfl, ?_⟩) ?_ ?_
             rotate_left
             ·intro w'
              go_simp
              with_reducible rfl
             rotate_left
             ·simp only [Act.put, s1, s2, s3, i64_w, i32_w]
              rfl
             refine pure_ (i := 2) (N := some 55) (v := ?_) (a' := ?_) m3_ rfl rfl (any_of HT_.out (by kernel_rfl)) (fun _ _ _ h => h) (Or.inl ⟨by rfl, ?_⟩) ?_ ?_
             rotate_left
             ·intro w'
              go_simp
              with_reducible rfl
             rotate_left
             ·simp only [Act.put, s1, s2, s3, i64_w, i32_w]
              rfl
             refine pure_ (i := 3) (N := some 56) (v := ?_) (a' := ?_) m4_ rfl rfl (any_of HT_.out (by kernel_rfl)) (fun _ _ _ h => h) (Or.inl ⟨by rfl, ?_⟩) ?_ ?_
             rotate_left
             ·intro w'
              go_simp
              with_reducible rfl
             rotate_left
             ·simp only [Act.put, s1, s2, s3, i64_w, i32_w]
              rfl
             refine pure_ (i := 4) (N := some 57) (v := ?_) (a' := ?_) m5_ rfl rfl (any_of HT_.out (by kernel_rfl)) (fun _ _ _ h => h) (Or.inl ⟨by rfl, ?_⟩) ?_ ?_
             rotate_left
             ·intro w'
              go_simp
              with_reducible rfl
             rotate_left
             ·simp only [Act.put, s1, s2, s3, i64_w, i32_w]
              rfl
             refine pure_ (i := 5) (N := some 58) (v := ?_) (a' := ?_) m6_ rfl rfl (any_of HT_.out (by kernel_rfl)) (fun _ _ _ h => h) (Or.inl ⟨by rfl, ?_⟩) ?_ ?_
             rotate_left
             ·intro w'
              go_simp
              with_reducible rfl
             rotate_left
             ·simp only [Act.put, s1, s2, s3, i64_w, i32_w]
              rfl
             refine pure_ (i := 6) (N := some 59) (v := ?_) (a' := ?_) m7_ rfl rfl (any_of HT_.out (by kernel_rfl)) (fun _ _ _ h => h) (Or.inl ⟨by rfl, ?_⟩) ?_ ?_
             rotate_left
             ·intro w'
              go_simp
              with_reducible rfl
             rotate_left
             ·simp only [Act.put, s1, s2, s3, i64_w, i32_w]
              rfl
             refine pure_ (i := 7) (N := some 60) (v := ?_) (a' := ?_) m8_ rfl rfl (any_of HT_.out (by kernel_rfl)) (fun _ _ _ h => h) (Or.inl ⟨by rfl, ?_⟩) ?_ ?_
             rotate_left
             ·intro w'
              go_simp
              with_reducible rfl
             rotate_left
             ·simp only [Act.put, s1, s2, s3, i64_w, i32_w]
              rfl
             refine pure_ (i := 8) (N := some 61) (v := ?_) (a' := ?_) m9_ rfl rfl (any_of HT_.out (by kernel_rfl)) (fun _ _ _ h => h) (Or.inl ⟨by rfl, ?_⟩) ?_ ?_
             rotate_left
             ·intro w'
              go_simp
              with_reducible rfl
             rotate_left
             ·simp only [Act.put, s1, s2, s3, i64_w, i32_w]
              rfl
             refine pure_ (i := 9) (N := some 62) (v := undef) (a' := ?_) m10_ rfl rfl (any_of HT_.out (by kernel_rfl)) (fun _ _ _ h => h) (Or.inr ⟨by rfl, rfl⟩) ?_ ?_
             rotate_left
             ·simp only [Act.put, s1, s2, s3, i64_w, i32_w]
              rfl
             refine pure_ (i := 10) (N := some 63) (v := undef) (a' := ?_) m11_ rfl rfl (any_of HT_.out (by kernel_rfl)) (fun _ _ _ h => h) (Or.inr ⟨by rfl, rfl⟩) ?_ ?_
             rotate_left
             ·simp only [Act.put, s1, s2, s3, i64_w, i32_w]
              rfl
             refine pure_ (i := 11) (N := some 64) (v := undef) (a' := ?_) m12_ rfl rfl (any_of HT_.out (by kernel_rfl)) (fun _ _ _ h => h) (Or.inr ⟨by rfl, rfl⟩) ?_ ?_
             rotate_left
             ·simp only [Act.put, s1, s2, s3, i64_w, i32_w]
              rfl
             refine pure_ (i := 12) (N := some 65) (v := undef) (a' := ?_) m13_ rfl rfl (any_of HT_.out (by kernel_rfl)) (fun _ _ _ h => h) (Or.inr ⟨by rfl, rfl⟩) ?_ ?_
             rotate_left
             ·simp only [Act.put, s1, s2, s3, i64_w, i32_w]
              rfl
             refine pure_ (i := 13) (N := some 66) (v := undef) (a' := ?_) m14_ rfl rfl (any_of HT_.out (by kernel_rfl)) (fun _ _ _ h => h) (Or.inr ⟨by rfl, rfl⟩) ?_ ?_
             rotate_left
             ·simp only [Act.put, s1, s2, s3, i64_w, i32_w]
              rfl
             refine pure_ (i := 14) (N := some 67) (v := undef) (a' := ?_) m15_ rfl rfl (any_of HT_.out (by kernel_rfl)) (fun _ _ _ h => h) (Or.inr ⟨by rfl, rfl⟩) ?_ ?_
             rotate_left
             ·simp only [Act.put, s1, s2, s3, i64_w, i32_w]
              rfl
             refine pure_ (i := 15) (N := some 68) (v := undef) (a' := ?_) m16_ rfl rfl (any_of HT_.out (by kernel_rfl)) (fun _ _ _ h => h) (Or.inr ⟨by rfl, rfl⟩) ?_ ?_
             rotate_left
             ·simp only [Act.put, s1, s2, s3, i64_w, i32_w]
              rfl
             refine pure_ (i := 16) (N := some 69) (v := undef) (a' := ?_) m17_ rfl rfl (any_of HT_.out (by kernel_rfl)) (fun _ _ _ h => h) (Or.inr ⟨by rfl, rfl⟩) ?_ ?_
             rotate_left
             ·simp only [Act.put, s1, s2, s3, i64_w, i32_w]
              rfl
             refine pure_ (i := 17) (N := some 70) (v := undef) (a' := ?_) m18_ rfl rfl (any_of HT_.out (by kernel_rfl)) (fun _ _ _ h => h) (Or.inr ⟨by rfl, rfl⟩) ?_ ?_
             rotate_left
             ·simp only [Act.put, s1, s2, s3, i64_w, i32_w]
              rfl
             refine pure_ (i := 18) (N := some 71) (v := undef) (a' := ?_) m19_ rfl rfl (any_of HT_.out (by kernel_rfl)) (fun _ _ _ h => h) (Or.inr ⟨by rfl, rfl⟩) ?_ ?_
             rotate_left
             ·simp only [Act.put, s1, s2, s3, i64_w, i32_w]
              rfl
             refine pure_ (i := 19) (N := some 72) (v := undef) (a' := ?_) m20_ rfl rfl (any_of HT_.out (by kernel_rfl)) (fun _ _ _ h => h) (Or.inr ⟨by rfl, rfl⟩) ?_ ?_
             rotate_left
             ·simp only [Act.put, s1, s2, s3, i64_w, i32_w]
              rfl
             refine pure_ (i := 20) (N := some 73) (v := undef) (a' := ?_) m21_ rfl rfl (any_of HT_.out (by kernel_rfl)) (fun _ _ _ h => h) (Or.inr ⟨by rfl, rfl⟩) ?_ ?_
             rotate_left
             ·simp only [Act.put, s1, s2, s3, i64_w, i32_w]
              rfl
             refine pure_ (i := 21) (N := some 74) (v := undef) (a' := ?_) m22_ rfl rfl (any_of HT_.out (by kernel_rfl)) (fun _ _ _ h => h) (Or.inr ⟨by rfl, rfl⟩) ?_ ?_
             rotate_left
             ·simp only [Act.put, s1, s2, s3, i64_w, i32_w]
              rfl
             refine pure_ (i := 22) (N := some 75) (v := undef) (a' := ?_) m23_ rfl rfl (any_of HT_.out (by kernel_rfl)) (fun _ _ _ h => h) (Or.inr ⟨by rfl, rfl⟩) ?_ ?_
             rotate_left
             ·simp only [Act.put, s1, s2, s3, i64_w, i32_w]
              rfl
             refine pure_ (i := 23) (N := some 76) (v := undef) (a' := ?_) m24_ rfl rfl (any_of HT_.out (by kernel_rfl)) (fun _ _ _ h => h) (Or.inr ⟨by rfl, rfl⟩) ?_ ?_
             rotate_left
             ·simp only [Act.put, s1, s2, s3, i64_w, i32_w]
              rfl
             refine pure_ (i := 24) (N := some 77) (v := undef) (a' := ?_) m25_ rfl rfl (any_of HT_.out (by kernel_rfl)) (fun _ _ _ h => h) (Or.inr ⟨by rfl, rfl⟩) ?_ ?_
             rotate_left
             ·simp only [Act.put, s1, s2, s3, i64_w, i32_w]
              rfl
             refine pure_ (i := 25) (N := some 78) (v := undef) (a' := ?_) m26_ rfl rfl (any_of HT_.out (by kernel_rfl)) (fun _ _ _ h => h) (Or.inr ⟨by rfl, rfl⟩) ?_ ?_
             rotate_left
             ·simp only [Act.put, s1, s2, s3, i64_w, i32_w]
              rfl
             refine pure_ (i := 26) (N := some 79) (v := undef) (a' := ?_) m27_ rfl rfl (any_of HT_.out (by kernel_rfl)) (fun _ _ _ h => h) (Or.inr ⟨by rfl, rfl⟩) ?_ ?_
             rotate_left
             ·simp only [Act.put, s1, s2, s3, i64_w, i32_w]
              rfl
             refine pure_ (i := 27) (N := some 80) (v := undef) (a' := ?_) m28_ rfl rfl (any_of HT_.out (by kernel_rfl)) (fun _ _ _ h => h) (Or.inr ⟨by rfl, rfl⟩) ?_ ?_
             rotate_left
             ·simp only [Act.put, s1, s2, s3, i64_w, i32_w]
              rfl
             refine pure_ (i := 28) (N := some 81) (v := undef) (a' := ?_) m29_ rfl rfl (any_of HT_.out (by kernel_rfl)) (fun _ _ _ h => h) (Or.inr ⟨by rfl, rfl⟩) ?_ ?_
             rotate_left
             ·simp only [Act.put, s1, s2, s3, i64_w, i32_w]
              rfl
             refine pure_ (i := 29) (N := some 82) (v := undef) (a' := ?_) m30_ rfl rfl (any_of HT_.out (by kernel_rfl)) (fun _ _ _ h => h) (Or.inr ⟨by rfl, rfl⟩) ?_ ?_
             rotate_left
             ·simp only [Act.put, s1, s2, s3, i64_w, i32_w]
              rfl
             refine pure_ (i := 30) (N := some 83) (v := undef) (a' := ?_) m31_ rfl rfl (any_of HT_.out (by kernel_rfl)) (fun _ _ _ h => h) (Or.inr ⟨by rfl, rfl⟩) ?_ ?_
             rotate_left
             ·simp only [Act.put, s1, s2, s3, i64_w, i32_w]
              rfl
             refine pure_ (i := 31) (N := some 84) (v := ?_) (a' := ?_) m32_ rfl rfl (any_of HT_.out (by kernel_rfl)) (fun _ _ _ h => h) (Or.inl ⟨by rfl, ?_⟩) ?_ ?_
             rotate_left
             ·intro w'
              go_simp
              with_reducible rfl
             rotate_left
             ·simp only [Act.put, s1, s2, s3, i64_w, i32_w]
              rfl
             refine done_ (done_of HT_.out (by kernel_rfl)) ?_
             try go_wp2
             go_roundg k2
             case measure => have := HK1.out; have := HK2.out; omega
             case rel => exact ⟨(x11_2), (x12_2), (wrap64 (x46_2 + 1)), zd', zd', H', ⟨by have := HK1.out; have := HK2.out.1; omega, HX4.out⟩, ⟨zc1'⟩, ⟨za1'⟩, ⟨zl'⟩, ⟨zh'⟩⟩
            ·rw [if_neg c37] at H
             have c37b0 : (x46_2 == (wrap64 (3 - x12_2))) = false := beq_eq_false_iff_ne.mpr c37
             have c37b1 : (x46_2 != (wrap64 (3 - x12_2))) = true := bne_iff_ne.mpr c37
             by_cases c41 : 0 ≤ x13_1
             ·rw [if_pos c41] at H
              have c41b0 : decide (0 ≤ x13_1) = true := decide_eq_true c41
              clear c41
              by_cases c42 : x13_1 < (t236.length : Int)
              ·rw [if_pos c42] at H
               have c42b0 : decide (x13_1 < (t236.length : Int)) = true := decide_eq_true c42
               clear c42
               obtain ⟨ji43, hji43⟩ : ∃ j_ : Int, (wrap64 ((wrap64 ((rd x11_1 (ji30)) * 5)) + x12_2)) = j_ := ⟨_, rfl⟩
               replace H : (if 0 ≤ (ji43) then (if (ji43) < ((rd_L1 t236 x13_1).length : Int) then (if 0 ≤ (wrap64 (x13_1 - 1)) then (if (wrap64 (x13_1 - 1)) < (t236.length : Int) then ((impl_moveCost.f a0_0 a0_1 l0_2 a0_3 a0_4 a0_5 a0_6 (rd_L1 t236 (wrap64 (x13_1 - 1))) (rd x11_1 (ji30)) t246 x12_2 x46_2).bind fun t250 => (if (rd (rd_L1 t236 x13_1) (ji43)) = t250 then (if x11_2.length < 17592186044416 then (impl_CheapestWay.l0 k2 a1 t236 t239 (x11_2 ++ [t246]) x46_2 (wrap64 (x13_1 - 1)) a0_0 a0_1 l0_2 a0_3 a0_4 a0_5 a0_6) else (none)) else (impl_CheapestWay.l1 k2 a1 t236 t239 x11_2 x12_2 x13_1 (rd x11_1 (ji30)) (wrap64 (x46_2 + 1)) a0_0 a0_1 l0_2 a0_3 a0_4 a0_5 a0_6))) else (none)) else (none)) else (none)) else (none)) = some (r1, r2, r3) := by first | (rw [hji43] at H; exact H) | (simp only [hji43] at H ⊢; exact H)
               (try rw [hji43] at A35)
               have hji43w : (IntKind.i64.wrap ((wrap64 ((rd x11_1 (ji30)) * 5)) + x12_2)) = ji43 := (i64_w _).trans hji43
               by_cases c44 : 0 ≤ (ji43)
               ·rw [if_pos c44] at H
                have c44b0 : decide (0 ≤ (ji43)) = true := decide_eq_true c44
                clear c44
                by_cases c45 : (ji43) < ((rd_L1 t236 x13_1).length : Int)
                ·rw [if_pos c45] at H
                 have c45b0 : decide ((ji43) < ((rd_L1 t236 x13_1).length : Int)) = true := decide_eq_true c45
                 clear c45
                 obtain ⟨ji46, hji46⟩ : ∃ j_ : Int, (wrap64 (x13_1 - 1)) = j_ := ⟨_, rfl⟩
                 replace H : (if 0 ≤ (ji46) then (if (ji46) < (t236.length : Int) then ((impl_moveCost.f a0_0 a0_1 l0_2 a0_3 a0_4 a0_5 a0_6 (rd_L1 t236 (ji46)) (rd x11_1 (ji30)) t246 x12_2 x46_2).bind fun t250 => (if (rd (rd_L1 t236 x13_1) (ji43)) = t250 then (if x11_2.length < 17592186044416 then (impl_CheapestWay.l0 k2 a1 t236 t239 (x11_2 ++ [t246]) x46_2 ji46 a0_0 a0_1 l0_2 a0_3 a0_4 a0_5 a0_6) else (none)) else (impl_CheapestWay.l1 k2 a1 t236 t239 x11_2 x12_2 x13_1 (rd x11_1 (ji30)) (wrap64 (x46_2 + 1)) a0_0 a0_1 l0_2 a0_3 a0_4 a0_5 a0_6))) else (none)) else (none)) = some (r1, r2, r3) := by first | (rw [hji46] at H; exact H) | (simp only [hji46] at H ⊢; exact H)
                 (try rw [hji46] at A35)
                 have hji46w : (IntKind.i64.wrap (x13_1 - 1)) = ji46 := (i64_w _).trans hji46
                 by_cases c47 : 0 ≤ (ji46)
                 ·rw [if_pos c47] at H
                  have c47b0 : decide (0 ≤ (ji46)) = true := decide_eq_true c47
                  clear c47
                  by_cases c48 : (ji46) < (t236.length : Int)
                  ·rw [if_pos c48] at H
                   have c48b0 : decide ((ji46) < (t236.length : Int)) = true := decide_eq_true c48
                   clear c48
                   replace H := Option.bind_eq_some_iff.mp H
                   obtain ⟨t250, A490, H⟩ := H
                   replace H : (if (rd (rd_L1 t236 x13_1) (ji43)) = t250 then (if x11_2.length < 17592186044416 then (impl_CheapestWay.l0 k2 a1 t236 t239 (x11_2 ++ [t246]) x46_2 ji46 a0_0 a0_1 l0_2 a0_3 a0_4 a0_5 a0_6) else (none)) else (impl_CheapestWay.l1 k2 a1 t236 t239 x11_2 x12_2 x13_1 (rd x11_1 (ji30)) (wrap64 (x46_2 + 1)) a0_0 a0_1 l0_2 a0_3 a0_4 a0_5 a0_6)) = some (r1, r2, r3) := H
                   have A49 := Aside0.mk A490
                   clear A490
                   by_cases c50 : (rd (rd_L1 t236 x13_1) (ji43)) = t250
                   ·rw [if_pos c50] at H
                    have c50b0 : ((rd (rd_L1 t236 x13_1) (ji43)) == t250) = true := beq_iff_eq.mpr c50
                    have c50b1 : ((rd (rd_L1 t236 x13_1) (ji43)) != t250) = false := bne_eq_false_iff_eq.mpr c50
                    clear c50
                    by_cases c51 : x11_2.length < 17592186044416
                    ·rw [if_pos c51] at H
                     have LMc51 := Aside0.mk c51
                     clear c51
                     obtain ⟨y251, hy251⟩ : ∃ y_ : List Int, y_ = (x11_2 ++ [t246]) := ⟨_, rfl⟩
                     replace H : (impl_CheapestWay.l0 k2 a1 t236 t239 y251 x46_2 ji46 a0_0 a0_1 l0_2 a0_3 a0_4 a0_5 a0_6) = some (r1, r2, r3) := by first | (rw [hy251]; with_reducible exact H) | (have H2_ := (Option.bind_some _ _).symm.trans H; rw [hy251]; with_reducible exact H2_) | (have H2_ := (Option.bind_some _ _).symm.trans H; with_reducible exact H2_) | with_reducible exact H | (rw [hy251]; exact H) | exact H
                     have Ny251 := Aside0.mk hy251
                     clear hy251
                     have H' := Aside0.mk H
                     clear H
                     have hcz52_0 : wr.cell? ⟨gb231, 0, none⟩ = some (.int .i64 a0_0) := (blk_cell BK231.out 0).trans rfl
                     have hcz52_1 : wr.cell? ⟨gb231, 1, none⟩ = some (.int .i64 a0_1) := (blk_cell BK231.out 1).trans rfl
                     have hcz52_2 : wr.cell? ⟨gb231, 2, none⟩ = some (.slice A0_2 l0_2.length c0_2) := (blk_cell BK231.out 2).trans rfl
                     have hcz52_3 : wr.cell? ⟨gb231, 3, none⟩ = some (.int .i64 a0_3) := (blk_cell BK231.out 3).trans rfl
                     have hcz52_4 : wr.cell? ⟨gb231, 4, none⟩ = some (.int .i64 a0_4) := (blk_cell BK231.out 4).trans rfl
                     have hcz52_5 : wr.cell? ⟨gb231, 5, none⟩ = some (.int .i64 a0_5) := (blk_cell BK231.out 5).trans rfl
                     have hcz52_6 : wr.cell? ⟨gb231, 6, none⟩ = some (.int .i64 a0_6) := (blk_cell BK231.out 6).trans rfl
                     have hfz52_0 := blk_frozen BK231.out 0
                     have hfz52_1 := blk_frozen BK231.out 1
                     have hfz52_2 := blk_frozen BK231.out 2
                     have hfz52_3 := blk_frozen BK231.out 3
                     have hfz52_4 := blk_frozen BK231.out 4
                     have hfz52_5 := blk_frozen BK231.out 5
                     have hfz52_6 := blk_frozen BK231.out 6
                     try go_wp2_with (first | ((with_reducible refine gate_callee (f := 61) rfl ?_); refine goesL_ (some 52) rfl rfl Tryd.func61 (by kernel_rfl) rfl #[.agg #[.int .i64 a0_0, .int .i64 a0_1, .slice A0_2 l0_2.length c0_2, .int .i64 a0_3, .int .i64 a0_4, .int .i64 a0_5, .int .i64 a0_6], .int .i64 (rd x11_1 (ji30)), .int .i64 x46_2] rfl za2' ?_; (with_reducible refine (impl_sideOf.calls a0_0 a0_1 _ _ l0_2 a0_3 a0_4 a0_5 a0_6 (rd x11_1 (ji30)) x46_2 t246 _ ?side1 ?side2 A35.out).mono ?_); (case side1 => exact zb'); (case side2 => exact zn1'); rintro e w53 ⟨rfl, hb⟩; refine ⟨_, rfl, ?_⟩; have n0_ := am (Kd.N_below zc1' hb); have n1_ := am (Kd.R_below za1' hb); have n2_ := am (blk_below (g := gb231) (o := .cells #[.int .i64 a0_0, .int .i64 a0_1, .slice A0_2 l0_2.length c0_2, .int .i64 a0_3, .int .i64 a0_4, .int .i64 a0_5, .int .i64 a0_6] 28 (0, 0)) zl' hb); have n3_ := am (below_step zh' hb); clear HO_9; clear HO_11; clear BK231; clear HB; have HO_9 := n0_; have HO_11 := n1_; have BK231 := n2_; have HB := n3_; clear n0_ n1_ n2_ n3_; (try clear hb); (try clear hb2); (try clear hk); (try clear hi)))
                     have n0_ := am (Kd.N_drew HO_9.out)
                     have n1_ := am (Kd.R_drew HO_11.out)
                     have n2_ := am (blk_drew BK231.out)
                     have n3_ := am (below_drew1 HB.out)
                     clear HO_9
                     clear HO_11
                     clear BK231
                     clear HB
                     have HO_9 := n0_
                     have HO_11 := n1_
                     have BK231 := n2_
                     have HB := n3_
                     clear n0_ n1_ n2_ n3_
                     have p247 : 0 ≤ (x13_1 : Int) := odt
                     have q247 : x13_1 < (t236.length : Int) := odt
                     obtain ⟨ad247, A247_0, c247_0, e247, hx247_0, hl247_0, hi247_0⟩ := at_L1 (Kd.N_reads' HO_9.out).2.2 x13_1 p247 q247
                     cases e247
                     obtain ⟨ce247, hce247, hMe247, hcc247⟩ := Kd.N_get HO_9.out [] x13_1 p247 (by first | exact q247 | exact odt | (have e_ := (Kd.N_reads' HO_9.out).1; omega))
                     obtain ⟨ua247_0, uc247_0, rfl, ul247_0, ge247_0⟩ := Kd.FK_slice_open hMe247
                     have hv247_0 := hcc247 0 _ rfl
                     rw [Nat.add_zero, show ((Kd.slice 3 (Kd.int .i64))).sz = 1 from rfl, Nat.mul_one] at hv247_0
                     replace hv247_0 := Option.some.inj (hv247_0.symm.trans hx247_0)
                     injection hv247_0 with hva_ hvn_ hvc_
                     rw [hva_] at ge247_0
                     rw [hvc_] at ul247_0
                     have HL247_0 := am (show Kd.V (Kd.int .i64) 3 _ w.heap.size _ _ (rd_L1 t236 x13_1) from Kd.V_mk ul247_0 ge247_0)
                     clear hva_ hvn_ hvc_ ge247_0 ul247_0
                     clear hcc247 hce247
                     have HR247_0 := Aside0.mk hi247_0
                     have HC247_0 := Aside0.mk hl247_0
                     clear hi247_0 hl247_0
                     replace p247 := eq_true p247
                     replace q247 := eq_true q247
                     have p248 : 0 ≤ ((ji43) : Int) := odt
                     have q248 : (ji43) < ((rd_L1 t236 x13_1).length : Int) := odt
                     obtain ⟨ad248, e248, hx248_0⟩ := Kd.at_int zv1' (ji43) p248 q248
                     cases e248
                     replace p248 := eq_true p248
                     replace q248 := eq_true q248
                     have p249 : 0 ≤ ((ji46) : Int) := odt
                     have q249 : (ji46) < (t236.length : Int) := odt
                     obtain ⟨ad249, A249_0, c249_0, e249, hx249_0, hl249_0, hi249_0⟩ := at_L1 (Kd.N_reads' HO_9.out).2.2 (ji46) p249 q249
                     obtain rfl : ad247 = ad249 := (by injection e249)
                     obtain ⟨ce249, hce249, hMe249, hcc249⟩ := Kd.N_get HO_9.out [] (ji46) p249 (by first | exact q249 | exact odt | (have e_ := (Kd.N_reads' HO_9.out).1; omega))
                     obtain ⟨ua249_0, uc249_0, rfl, ul249_0, ge249_0⟩ := Kd.FK_slice_open hMe249
                     have hv249_0 := hcc249 0 _ rfl
                     rw [Nat.add_zero, show ((Kd.slice 3 (Kd.int .i64))).sz = 1 from rfl, Nat.mul_one] at hv249_0
                     replace hv249_0 := Option.some.inj (hv249_0.symm.trans hx249_0)
                     injection hv249_0 with hva_ hvn_ hvc_
                     rw [hva_] at ge249_0
                     rw [hvc_] at ul249_0
                     have HL249_0 := am (show Kd.V (Kd.int .i64) 3 _ w.heap.size _ _ (rd_L1 t236 (ji46)) from Kd.V_mk ul249_0 ge249_0)
                     clear hva_ hvn_ hvc_ ge249_0 ul249_0
                     clear hcc249 hce249
                     have HR249_0 := Aside0.mk hi249_0
                     have HC249_0 := Aside0.mk hl249_0
                     clear hi249_0 hl249_0
                     replace p249 := eq_true p249
                     replace q249 := eq_true q249
                     refine start_ (n := 32) (S := fun w' => w'.cell? ⟨gb231, 0, none⟩ = some (.int .i64 a0_0) ∧ w'.cell? ⟨gb231, 1, none⟩ = some (.int .i64 a0_1) ∧ w'.cell? ⟨gb231, 2, none⟩ = some (.slice A0_2 l0_2.length c0_2) ∧ w'.cell? ⟨gb231, 3, none⟩ = some (.int .i64 a0_3) ∧ w'.cell? ⟨gb231, 4, none⟩ = some (.int .i64 a0_4) ∧ w'.cell? ⟨gb231, 5, none⟩ = some (.int .i64 a0_5) ∧ w'.cell? ⟨gb231, 6, none⟩ = some (.int .i64 a0_6) ∧ w'.cell? (ad247.add (x13_1).toNat) = some (.slice (some ad248) (rd_L1 t236 x13_1).length c247_0) ∧ w'.cell? (ad248.add ((ji43)).toNat) = some (.int .i64 (rd (rd_L1 t236 x13_1) (ji43))) ∧ w'.cell? (ad247.add ((ji46)).toNat) = some (.slice A249_0 (rd_L1 t236 (ji46)).length c249_0)) (ds := []) m0_ (by kernel_rfl) rfl rfl ⟨(blk_cell BK231.out 0).trans rfl, (blk_cell BK231.out 1).trans rfl, (blk_cell BK231.out 2).trans rfl, (blk_cell BK231.out 3).trans rfl, (blk_cell BK231.out 4).trans rfl, (blk_cell BK231.out 5).trans rfl, (blk_cell BK231.out 6).trans rfl, hx247_0, hx248_0, hx249_0⟩ (fun hHeld => ?_); refine with_tabW impl_CheapestWay.tab17 impl_CheapestWay.bits17 (fun HT_ HW_ => ?_)
                     generalize w53.drew = w54 at HO_9 HO_11 BK231 HB HL247_0 HL249_0 HR247_0 HR249_0 hx247_0 hx248_0 hx249_0 hHeld ⊢
                     refine pure_ (i := 0) (N := some 53) (v := ?_) (a' := ?_) m1_ rfl rfl (any_of HT_.out (by kernel_rfl)) (fun _ _ _ h => h) (Or.inl ⟨by rfl, ?_⟩) ?_ ?_
                     rotate_left
                     ·intro w'
                      go_simp
                      with_reducible rfl
                     rotate_left
                     ·simp only [Act.put, s1, s2, s3, i64_w, i32_w]
                      rfl
                     refine pure_ (i := 1) (N := some 54) (v := ?_) (a' := ?_) m2_ rfl rfl (any_of HT_.out (by kernel_rfl)) (fun _ _ _ h => h) (Or.inl ⟨by rfl, ?_⟩) ?_ ?_
                     rotate_left
                     ·intro w'
                      go_simp
                      with_reducible rfl
                     rotate_left
                     ·simp only [Act.put, s1, s2, s3, i64_w, i32_w]
                      rfl
                     refine pure_ (i := 2) (N := some 55) (v := ?_) (a' := ?_) m3_ rfl rfl (any_of HT_.out (by kernel_rfl)) (fun _ _ _ h => h) (Or.inl ⟨by rfl, ?_⟩) ?_ ?_
                     rotate_left
                     ·intro w'
                      go_simp
                      with_reducible rfl
                     rotate_left
                     ·simp only [Act.put, s1, s2, s3, i64_w, i32_w]
                      rfl
                     refine pure_ (i := 3) (N := some 56) (v := ?_) (a' := ?_) m4_ rfl rfl (any_of HT_.out (by kernel_rfl)) (fun _ _ _ h => h) (Or.inl ⟨by rfl, ?_⟩) ?_ ?_
                     rotate_left
                     ·intro w'
                      go_simp
                      with_reducible rfl
                     rotate_left
                     ·simp only [Act.put, s1, s2, s3, i64_w, i32_w]
                      rfl
                     refine pure_ (i := 4) (N := some 57) (v := ?_) (a' := ?_) m5_ rfl rfl (any_of HT_.out (by kernel_rfl)) (fun _ _ _ h => h) (Or.inl ⟨by rfl, ?_⟩) ?_ ?_
                     rotate_left
                     ·intro w'
                      go_simp
                      with_reducible rfl
                     rotate_left
                     ·simp only [Act.put, s1, s2, s3, i64_w, i32_w]
                      rfl
                     refine pure_ (i := 5) (N := some 58) (v := ?_) (a' := ?_) m6_ rfl rfl (any_of HT_.out (by kernel_rfl)) (fun _ _ _ h => h) (Or.inl ⟨by rfl, ?_⟩) ?_ ?_
                     rotate_left
                     ·intro w'
                      go_simp
                      with_reducible rfl
                     rotate_left
                     ·simp only [Act.put, s1, s2, s3, i64_w, i32_w]
                      rfl
                     refine pure_ (i := 6) (N := some 59) (v := ?_) (a' := ?_) m7_ rfl rfl (any_of HT_.out (by kernel_rfl)) (fun _ _ _ h => h) (Or.inl ⟨by rfl, ?_⟩) ?_ ?_
                     rotate_left
                     ·intro w'
                      go_simp
                      with_reducible rfl
                     rotate_left
                     ·simp only [Act.put, s1, s2, s3, i64_w, i32_w]
                      rfl
                     refine pure_ (i := 7) (N := some 60) (v := ?_) (a' := ?_) m8_ rfl rfl (any_of HT_.out (by kernel_rfl)) (fun _ _ _ h => h) (Or.inl ⟨by rfl, ?_⟩) ?_ ?_
                     rotate_left
                     ·intro w'
                      go_simp
                      with_reducible rfl
                     rotate_left
                     ·simp only [Act.put, s1, s2, s3, i64_w, i32_w]
                      rfl
                     refine pure_ (i := 8) (N := some 61) (v := ?_) (a' := ?_) m9_ rfl rfl (any_of HT_.out (by kernel_rfl)) (fun _ _ _ h => h) (Or.inl ⟨by rfl, ?_⟩) ?_ ?_
                     rotate_left
                     ·intro w'
                      go_simp
                      with_reducible rfl
                     rotate_left
                     ·simp only [Act.put, s1, s2, s3, i64_w, i32_w]
                      rfl
                     refine pure_ (i := 9) (N := some 62) (v := ?_) (a' := ?_) m10_ rfl rfl (any_of HT_.out (by kernel_rfl)) (fun _ _ _ h => h) (Or.inl ⟨by rfl, ?_⟩) ?_ ?_
                     rotate_left
                     ·intro w'
                      go_simp
                      with_reducible rfl
                     rotate_left
                     ·simp only [Act.put, s1, s2, s3, i64_w, i32_w]
                      rfl
                     refine pure_ (i := 10) (N := some 63) (v := ?_) (a' := ?_) m11_ rfl rfl (any_of HT_.out (by kernel_rfl)) (fun _ _ _ h => h) (Or.inl ⟨by rfl, ?_⟩) ?_ ?_
                     rotate_left
                     ·intro w'
                      go_simp
                      with_reducible rfl
                     rotate_left
                     ·simp only [Act.put, s1, s2, s3, i64_w, i32_w]
                      rfl
                     refine pure_ (i := 11) (N := some 64) (v := ?_) (a' := ?_) m12_ rfl rfl (any_of HT_.out (by kernel_rfl)) (fun _ _ _ h => h) (Or.inl ⟨by rfl, ?_⟩) ?_ ?_
                     rotate_left
                     ·intro w'
                      go_simp
                      with_reducible rfl
                     rotate_left
                     ·simp only [Act.put, s1, s2, s3, i64_w, i32_w]
                      rfl
                     refine pure_ (i := 13) (N := some 66) (v := ?_) (a' := ?_) m33_ rfl rfl (any_of HT_.out (by kernel_rfl)) (fun _ _ _ h => h) (Or.inl ⟨by rfl, ?_⟩) ?_ ?_
                     rotate_left
                     ·intro w'
                      go_simp
                      with_reducible rfl
                     rotate_left
                     ·simp only [Act.put, s1, s2, s3, i64_w, i32_w]
                      rfl
                     refine pure_ (i := 14) (N := some 67) (v := ?_) (a' := ?_) m34_ rfl rfl (any_of HT_.out (by kernel_rfl)) (fun _ _ _ h => h) (Or.inl ⟨by rfl, ?_⟩) ?_ ?_
                     rotate_left
                     ·intro w'
                      go_simp
                      with_reducible rfl
                     rotate_left
                     ·simp only [Act.put, s1, s2, s3, i64_w, i32_w]
                      rfl
                     refine pure_ (i := 15) (N := some 68) (v := ?_) (a' := ?_) m35_ rfl rfl (any_of HT_.out (by kernel_rfl)) (fun _ _ _ h => h) (Or.inl ⟨by rfl, ?_⟩) ?_ ?_
                     rotate_left
                     ·intro w'
                      go_simp
                      with_reducible rfl
                     rotate_left
                     ·simp only [Act.put, s1, s2, s3, i64_w, i32_w]
                      rfl
                     refine pure_ (i := 16) (N := some 69) (v := ?_) (a' := ?_) m36_ rfl rfl (any_of HT_.out (by kernel_rfl)) (fun _ _ _ h => h) (Or.inl ⟨by rfl, ?_⟩) ?_ ?_
                     rotate_left
                     ·intro w'
                      go_simp
                      with_reducible rfl
                     rotate_left
                     ·simp only [Act.put, s1, s2, s3, i64_w, i32_w]
                      rfl
                     refine pure_ (i := 20) (N := some 73) (v := ?_) (a' := ?_) m37_ rfl rfl (any_of HT_.out (by kernel_rfl)) (fun _ _ _ h => h) (Or.inl ⟨by rfl, ?_⟩) ?_ ?_
                     rotate_left
                     ·intro w'
                      go_simp
                      with_reducible rfl
                     rotate_left
                     ·simp only [Act.put, s1, s2, s3, i64_w, i32_w]
                      rfl
                     refine pure_ (i := 21) (N := some 74) (v := ?_) (a' := ?_) m38_ rfl rfl (any_of HT_.out (by kernel_rfl)) (fun _ _ _ h => h) (Or.inl ⟨by rfl, ?_⟩) ?_ ?_
                     rotate_left
                     ·intro w'
                      go_simp
                      with_reducible rfl
                     rotate_left
                     ·simp only [Act.put, s1, s2, s3, i64_w, i32_w]
                      rfl
                     refine pure_ (i := 22) (N := some 75) (v := ?_) (a' := ?_) m39_ rfl rfl (any_of HT_.out (by kernel_rfl)) (fun _ _ _ h => h) (Or.inl ⟨by rfl, ?_⟩) ?_ ?_
                     rotate_left
                     ·intro w'
                      go_simp
                      with_reducible rfl
                     rotate_left
                     ·simp only [Act.put, s1, s2, s3, i64_w, i32_w]
                      rfl
                     refine pure_ (i := 23) (N := some 76) (v := ?_) (a' := ?_) m40_ rfl rfl (any_of HT_.out (by kernel_rfl)) (fun _ _ _ h => h) (Or.inl ⟨by rfl, ?_⟩) ?_ ?_
                     rotate_left
                     ·intro w'
                      go_simp
                      with_reducible rfl
                     rotate_left
                     ·simp only [Act.put, s1, s2, s3, i64_w, i32_w]
                      rfl
                     refine pure_ (i := 25) (N := some 78) (v := ?_) (a' := ?_) m41_ rfl rfl (any_of HT_.out (by kernel_rfl)) (fun _ _ _ h => h) (Or.inl ⟨by rfl, ?_⟩) ?_ ?_
                     rotate_left
                     ·intro w'
                      go_simp
                      with_reducible rfl
                     rotate_left
                     ·simp only [Act.put, s1, s2, s3, i64_w, i32_w]
                      rfl
                     refine pure_ (i := 26) (N := some 79) (v := ?_) (a' := ?_) m42_ rfl rfl (any_of HT_.out (by kernel_rfl)) (fun _ _ _ h => h) (Or.inl ⟨by rfl, ?_⟩) ?_ ?_
                     rotate_left
                     ·intro w'
                      go_simp
                      with_reducible rfl
                     rotate_left
                     ·simp only [Act.put, s1, s2, s3, i64_w, i32_w]
                      rfl
                     refine pure_ (i := 27) (N := some 80) (v := ?_) (a' := ?_) m43_ rfl rfl (any_of HT_.out (by kernel_rfl)) (fun _ _ _ h => h) (Or.inl ⟨by rfl, ?_⟩) ?_ ?_
                     rotate_left
                     ·intro w'
                      go_simp
                      with_reducible rfl
                     rotate_left
                     ·simp only [Act.put, s1, s2, s3, i64_w, i32_w]
                      rfl
                     refine pure_ (i := 28) (N := some 81) (v := ?_) (a' := ?_) m44_ rfl rfl (any_of HT_.out (by kernel_rfl)) (fun _ _ _ h => h) (Or.inl ⟨by rfl, ?_⟩) ?_ ?_
                     rotate_left
                     ·intro w'
                      go_simp
                      with_reducible rfl
                     rotate_left
                     ·simp only [Act.put, s1, s2, s3, i64_w, i32_w]
                      rfl
                     refine take_ (i := 12) (N := some 65) (v := ?_) (a' := ?_) m45_ rfl rfl (take_ofW HT_.out HW_.out (by kernel_rfl)) (fun _ _ _ h => h) (Or.inl ⟨by rfl, ?_⟩) hHeld ?_ ?_
                     rotate_left
                     ·rintro w' ⟨s0, s1, s2, s3, s4, s5, s6, s7, s8, s9⟩
                      go_simp
                      with_reducible rfl
                     rotate_left
                     ·simp only [Act.put, s1, s2, s3, i64_w, i32_w]
                      rfl
                     refine pure_ (i := 17) (N := some 70) (v := ?_) (a' := ?_) m46_ rfl rfl (any_of HT_.out (by kernel_rfl)) (fun _ _ _ h => h) (Or.inl ⟨by rfl, ?_⟩) ?_ ?_
                     rotate_left
                     ·intro w'
                      go_simp
                      with_reducible rfl
                     rotate_left
                     ·simp only [Act.put, s1, s2, s3, i64_w, i32_w]
                      rfl
                     refine take_ (i := 18) (N := some 71) (v := ?_) (a' := ?_) m47_ rfl rfl (take_ofW HT_.out HW_.out (by kernel_rfl)) (fun _ _ _ h => h) (Or.inl ⟨by rfl, ?_⟩) hHeld ?_ ?_
                     rotate_left
                     ·rintro w' ⟨s0, s1, s2, s3, s4, s5, s6, s7, s8, s9⟩
                      go_simp
                      with_reducible rfl
                     rotate_left
                     ·simp only [Act.put, s1, s2, s3, i64_w, i32_w]
                      rfl
                     refine take_ (i := 19) (N := some 72) (v := ?_) (a' := ?_) m48_ rfl rfl (take_ofW HT_.out HW_.out (by kernel_rfl)) (fun _ _ _ h => h) (Or.inl ⟨by rfl, ?_⟩) hHeld ?_ ?_
                     rotate_left
                     ·rintro w' ⟨s0, s1, s2, s3, s4, s5, s6, s7, s8, s9⟩
                      go_simp
                      with_reducible rfl
                     rotate_left
                     ·simp only [Act.put, s1, s2, s3, i64_w, i32_w]
                      rfl
                     refine take_ (i := 24) (N := some 77) (v := ?_) (a' := ?_) m29_ rfl rfl (take_ofW HT_.out HW_.out (by kernel_rfl)) (fun _ _ _ h => h) (Or.inl ⟨by rfl, ?_⟩) hHeld ?_ ?_
                     rotate_left
                     ·rintro w' ⟨s0, s1, s2, s3, s4, s5, s6, s7, s8, s9⟩
                      go_simp
                      with_reducible rfl
                     rotate_left
                     ·simp only [Act.put, s1, s2, s3, i64_w, i32_w]
                      rfl
                     refine one_ (i := 29) (N := some 82) m30_ rfl rfl (one_of HT_.out (by kernel_rfl)) (by decide) (fun K hK => ?_)
                     refine goes_ Tryd.func62 (by kernel_rfl) rfl #[.agg #[.int .i64 a0_0, .int .i64 a0_1, .slice A0_2 l0_2.length c0_2, .int .i64 a0_3, .int .i64 a0_4, .int .i64 a0_5, .int .i64 a0_6], .slice A249_0 (rd_L1 t236 (ji46)).length c249_0, .int .i64 (rd x11_1 (ji30)), .int .i64 t246, .int .i64 x12_2, .int .i64 x46_2] (by rfl) rfl rfl zu3' ?_
                     with_reducible refine (impl_moveCost.calls a0_0 a0_1 _ _ l0_2 a0_3 a0_4 a0_5 a0_6 _ _ (rd_L1 t236 (ji46)) (rd x11_1 (ji30)) t246 x12_2 x46_2 t250 _ ?side1 ?side2 ?side3 ?side4 A49.out).mono ?_
                     (case side1 => exact zb')
                     (case side2 => exact zn1')
                     (case side3 => exact zy3')
                     (case side4 => exact HC249_0.out)
                     rintro e w55 ⟨rfl, hb⟩
                     have HS7_ := (hb.cell (World.block_lt_of_cell? _ _ (hHeld.2.2.2.2.2.2.2.1))).trans (hHeld.2.2.2.2.2.2.2.1)
                     have HS8_ := (hb.cell (World.block_lt_of_cell? _ _ (hHeld.2.2.2.2.2.2.2.2.1))).trans (hHeld.2.2.2.2.2.2.2.2.1)
                     have HS9_ := (hb.cell (World.block_lt_of_cell? _ _ (hHeld.2.2.2.2.2.2.2.2.2))).trans (hHeld.2.2.2.2.2.2.2.2.2)
                     refine ⟨_, rfl, ?_⟩
                     have n0_ := am (Kd.N_below zc1' hb)
                     have n1_ := am (Kd.R_below za1' hb)
                     have n2_ := am (Kd.V_below (by (with_reducible repeat (first | apply Kd.V_alloc | apply Kd.V_drewN | apply Kd.V_drew)); exact HL247_0.out) hb)
                     have n3_ := am (Kd.V_below (by (with_reducible repeat (first | apply Kd.V_alloc | apply Kd.V_drewN | apply Kd.V_drew)); exact HL249_0.out) hb)
                     have n4_ := am (blk_below (g := gb231) (o := .cells #[.int .i64 a0_0, .int .i64 a0_1, .slice A0_2 l0_2.length c0_2, .int .i64 a0_3, .int .i64 a0_4, .int .i64 a0_5, .int .i64 a0_6] 28 (0, 0)) zl' hb)
                     have n5_ := am (Kd.C_below zv1' hb)
                     have n6_ := am (Kd.C_below zw1' hb)
                     have n7_ := am (below_step zh' hb)
                     clear HO_9
                     clear HO_11
                     clear HL247_0
                     clear HL249_0
                     clear BK231
                     clear HR247_0
                     clear HR249_0
                     clear HB
                     have HO_9 := n0_
                     have HO_11 := n1_
                     have HL247_0 := n2_
                     have HL249_0 := n3_
                     have BK231 := n4_
                     have HR247_0 := n5_
                     have HR249_0 := n6_
                     have HB := n7_
                     clear n0_ n1_ n2_ n3_ n4_ n5_ n6_ n7_
                     (try clear hb)
                     (try clear hb2)
                     (try clear hk)
                     (try clear hi)
                     refine hK.out _ _ ⟨(blk_cell BK231.out 0).trans rfl, (blk_cell BK231.out 1).trans rfl, (blk_cell BK231.out 2).trans rfl, (blk_cell BK231.out 3).trans rfl, (blk_cell BK231.out 4).trans rfl, (blk_cell BK231.out 5).trans rfl, (blk_cell BK231.out 6).trans rfl, HS7_, HS8_, HS9_⟩ (fun hHeld => ?_)
                     clear hK K
                     refine norm_ (a' := ?_) ?_ ?_
                     rotate_left
                     ·show Act.put _ (some 82) _ = _
                      simp only [Act.put, s1, s2, s3, i64_w, i32_w]
                      rfl
                     refine pure_ (i := 30) (N := some 83) (v := ?_) (a' := ?_) m31_ rfl rfl (any_of HT_.out (by kernel_rfl)) (fun _ _ _ h => h) (Or.inl ⟨by rfl, ?_⟩) ?_ ?_
                     rotate_left
                     ·intro w'
                      go_simp
                      with_reducible rfl
                     rotate_left
                     ·simp only [Act.put, s1, s2, s3, i64_w, i32_w]
                      rfl
                     refine pure_ (i := 31) (N := some 84) (v := ?_) (a' := ?_) m32_ rfl rfl (any_of HT_.out (by kernel_rfl)) (fun _ _ _ h => h) (Or.inl ⟨by rfl, ?_⟩) ?_ ?_
                     rotate_left
                     ·intro w'
                      go_simp
                      with_reducible rfl
                     rotate_left
                     ·simp only [Act.put, s1, s2, s3, i64_w, i32_w]
                      rfl
                     refine done_ (done_of HT_.out (by kernel_rfl)) ?_
                     try go_wp2_with (first | ((with_reducible refine gate_builtin (b := .append) (xs := #[.tmp 85, .tmp 87]) rfl ?_); at_builtin; refine Kd.R_append (Kd.int .i64) (w0 := w) w.heap.size rfl (.tmp 85) (.tmp 87) 22 3 (.int .i64 0) 8 rfl Tryd.underlying22 info3 rfl (by decide) (by omega) u11 x11_2 t246 [.int .i64 t246] (fun _ => True) (fun _ => False) rfl rfl ?aP (fun _ hk => hk.elim) ?aF ?aO ?aB ?aS ?aL ?_; (case aP => exact rfl); (case aB => exact zh'); (case aF => exact (fun _ _ => trivial)); (case aO => exact za1'); (case aS => exact (below_size zh')); (case aL => have := LMc51.out; omega); intro v252 w56 ho hb hg hat; rw [← Ny251.out] at ho; have n0_ := am (Kd.N_afterv (ok := (fun k_ => k_ ≠ gb231)) zc4' hg hat); have n1_ := am (blk_grown (g := gb231) (o := .cells #[.int .i64 a0_0, .int .i64 a0_1, .slice A0_2 l0_2.length c0_2, .int .i64 a0_3, .int .i64 a0_4, .int .i64 a0_5, .int .i64 a0_6] 28 (0, 0)) zl' hg (Kd.R_ne HO_11.out BK231.out (by decide))); have n2_ := am (Kd.V_afterv (ok := (fun k_ => some k_ ≠ (.slice (some ad247) t236.length co26 : Value).ownBlock ∧ k_ ≠ gb231)) (by (with_reducible repeat (first | apply Kd.V_alloc | apply Kd.V_drewN | apply Kd.V_drew)); exact Kd.V_mono HL247_0.out (fun _ hk => ⟨⟨hk.2, hk.1.2⟩, hk.1.1⟩)) hg hat); have n3_ := am (Kd.V_afterv (ok := (fun k_ => some k_ ≠ (.slice (some ad247) t236.length co26 : Value).ownBlock ∧ k_ ≠ gb231)) (by (with_reducible repeat (first | apply Kd.V_alloc | apply Kd.V_drewN | apply Kd.V_drew)); exact Kd.V_mono HL249_0.out (fun _ hk => ⟨⟨hk.2, hk.1.2⟩, hk.1.1⟩)) hg hat); have n4_ := am (hb); have n5_ := am (ho); clear HO_9; clear BK231; clear HL247_0; clear HL249_0; clear HB; clear HO_11; have HO_9 := n0_; have BK231 := n1_; have HL247_0 := n2_; have HL249_0 := n3_; have HB := n4_; have HO253 := n5_; clear n0_ n1_ n2_ n3_ n4_ n5_; clear ho hb hg hat))
                     go_roundg k2
                     case measure => have := HK1.out; have := HK2.out; omega
                     case rel => exact ⟨(y251), (x46_2), (ji46), zd', (by first | rfl | (simp; done) | (simp only [← hji46] <;> (first | rfl | simp)) | (simp [*]; done)), H', ⟨zh3'⟩, ⟨zc4'⟩, ⟨by (with_reducible repeat (first | apply Kd.R_alloc | apply Kd.R_drewN | apply Kd.R_drew)); exact HO253.out⟩, ⟨zl'⟩, ⟨zh'⟩⟩
                    ·rw [if_neg c51] at H
                     exact absurd H (by simp)
                   ·rw [if_neg c50] at H
                    have c50b0 : ((rd (rd_L1 t236 x13_1) (ji43)) == t250) = false := beq_eq_false_iff_ne.mpr c50
                    have c50b1 : ((rd (rd_L1 t236 x13_1) (ji43)) != t250) = true := bne_iff_ne.mpr c50
                    have H' := Aside0.mk H
                    clear H
                    have hcz57_0 : wr.cell? ⟨gb231, 0, none⟩ = some (.int .i64 a0_0) := (blk_cell BK231.out 0).trans rfl
                    have hcz57_1 : wr.cell? ⟨gb231, 1, none⟩ = some (.int .i64 a0_1) := (blk_cell BK231.out 1).trans rfl
                    have hcz57_2 : wr.cell? ⟨gb231, 2, none⟩ = some (.slice A0_2 l0_2.length c0_2) := (blk_cell BK231.out 2).trans rfl
                    have hcz57_3 : wr.cell? ⟨gb231, 3, none⟩ = some (.int .i64 a0_3) := (blk_cell BK231.out 3).trans rfl
                    have hcz57_4 : wr.cell? ⟨gb231, 4, none⟩ = some (.int .i64 a0_4) := (blk_cell BK231.out 4).trans rfl
                    have hcz57_5 : wr.cell? ⟨gb231, 5, none⟩ = some (.int .i64 a0_5) := (blk_cell BK231.out 5).trans rfl
                    have hcz57_6 : wr.cell? ⟨gb231, 6, none⟩ = some (.int .i64 a0_6) := (blk_cell BK231.out 6).trans rfl
                    have hfz57_0 := blk_frozen BK231.out 0
                    have hfz57_1 := blk_frozen BK231.out 1
                    have hfz57_2 := blk_frozen BK231.out 2
                    have hfz57_3 := blk_frozen BK231.out 3
                    have hfz57_4 := blk_frozen BK231.out 4
                    have hfz57_5 := blk_frozen BK231.out 5
                    have hfz57_6 := blk_frozen BK231.out 6
                    try go_wp2_with (first | ((with_reducible refine gate_callee (f := 61) rfl ?_); refine goesL_ (some 52) rfl rfl Tryd.func61 (by kernel_rfl) rfl #[.agg #[.int .i64 a0_0, .int .i64 a0_1, .slice A0_2 l0_2.length c0_2, .int .i64 a0_3, .int .i64 a0_4, .int .i64 a0_5, .int .i64 a0_6], .int .i64 (rd x11_1 (ji30)), .int .i64 x46_2] rfl za2' ?_; (with_reducible refine (impl_sideOf.calls a0_0 a0_1 _ _ l0_2 a0_3 a0_4 a0_5 a0_6 (rd x11_1 (ji30)) x46_2 t246 _ ?side1 ?side2 A35.out).mono ?_); (case side1 => exact zb'); (case side2 => exact zn1'); rintro e w58 ⟨rfl, hb⟩; refine ⟨_, rfl, ?_⟩; have n0_ := am (Kd.N_below zc1' hb); have n1_ := am (Kd.R_below za1' hb); have n2_ := am (blk_below (g := gb231) (o := .cells #[.int .i64 a0_0, .int .i64 a0_1, .slice A0_2 l0_2.length c0_2, .int .i64 a0_3, .int .i64 a0_4, .int .i64 a0_5, .int .i64 a0_6] 28 (0, 0)) zl' hb); have n3_ := am (below_step zh' hb); clear HO_9; clear HO_11; clear BK231; clear HB; have HO_9 := n0_; have HO_11 := n1_; have BK231 := n2_; have HB := n3_; clear n0_ n1_ n2_ n3_; (try clear hb); (try clear hb2); (try clear hk); (try clear hi)))
                    have n0_ := am (Kd.N_drew HO_9.out)
                    have n1_ := am (Kd.R_drew HO_11.out)
                    have n2_ := am (blk_drew BK231.out)
                    have n3_ := am (below_drew1 HB.out)
                    clear HO_9
                    clear HO_11
                    clear BK231
                    clear HB
                    have HO_9 := n0_
                    have HO_11 := n1_
                    have BK231 := n2_
                    have HB := n3_
                    clear n0_ n1_ n2_ n3_
                    have p247 : 0 ≤ (x13_1 : Int) := odt
                    have q247 : x13_1 < (t236.length : Int) := odt
                    obtain ⟨ad247, A247_0, c247_0, e247, hx247_0, hl247_0, hi247_0⟩ := at_L1 (Kd.N_reads' HO_9.out).2.2 x13_1 p247 q247
                    cases e247
                    obtain ⟨ce247, hce247, hMe247, hcc247⟩ := Kd.N_get HO_9.out [] x13_1 p247 (by first | exact q247 | exact odt | (have e_ := (Kd.N_reads' HO_9.out).1; omega))
                    obtain ⟨ua247_0, uc247_0, rfl, ul247_0, ge247_0⟩ := Kd.FK_slice_open hMe247
                    have hv247_0 := hcc247 0 _ rfl
                    rw [Nat.add_zero, show ((Kd.slice 3 (Kd.int .i64))).sz = 1 from rfl, Nat.mul_one] at hv247_0
                    replace hv247_0 := Option.some.inj (hv247_0.symm.trans hx247_0)
                    injection hv247_0 with hva_ hvn_ hvc_
                    rw [hva_] at ge247_0
                    rw [hvc_] at ul247_0
                    have HL247_0 := am (show Kd.V (Kd.int .i64) 3 _ w.heap.size _ _ (rd_L1 t236 x13_1) from Kd.V_mk ul247_0 ge247_0)
                    clear hva_ hvn_ hvc_ ge247_0 ul247_0
                    clear hcc247 hce247
                    have HR247_0 := Aside0.mk hi247_0
                    have HC247_0 := Aside0.mk hl247_0
                    clear hi247_0 hl247_0
                    replace p247 := eq_true p247
                    replace q247 := eq_true q247
                    have p248 : 0 ≤ ((ji43) : Int) := odt
                    have q248 : (ji43) < ((rd_L1 t236 x13_1).length : Int) := odt
                    obtain ⟨ad248, e248, hx248_0⟩ := Kd.at_int zv1' (ji43) p248 q248
                    cases e248
                    replace p248 := eq_true p248
                    replace q248 := eq_true q248
                    have p249 : 0 ≤ ((ji46) : Int) := odt
                    have q249 : (ji46) < (t236.length : Int) := odt
                    obtain ⟨ad249, A249_0, c249_0, e249, hx249_0, hl249_0, hi249_0⟩ := at_L1 (Kd.N_reads' HO_9.out).2.2 (ji46) p249 q249
                    obtain rfl : ad247 = ad249 := (by injection e249)
                    obtain ⟨ce249, hce249, hMe249, hcc249⟩ := Kd.N_get HO_9.out [] (ji46) p249 (by first | exact q249 | exact odt | (have e_ := (Kd.N_reads' HO_9.out).1; omega))
                    obtain ⟨ua249_0, uc249_0, rfl, ul249_0, ge249_0⟩ := Kd.FK_slice_open hMe249
                    have hv249_0 := hcc249 0 _ rfl
                    rw [Nat.add_zero, show ((Kd.slice 3 (Kd.int .i64))).sz = 1 from rfl, Nat.mul_one] at hv249_0
                    replace hv249_0 := Option.some.inj (hv249_0.symm.trans hx249_0)
                    injection hv249_0 with hva_ hvn_ hvc_
                    rw [hva_] at ge249_0
                    rw [hvc_] at ul249_0
                    have HL249_0 := am (show Kd.V (Kd.int .i64) 3 _ w.heap.size _ _ (rd_L1 t236 (ji46)) from Kd.V_mk ul249_0 ge249_0)
                    clear hva_ hvn_ hvc_ ge249_0 ul249_0
                    clear hcc249 hce249
                    have HR249_0 := Aside0.mk hi249_0
                    have HC249_0 := Aside0.mk hl249_0
                    clear hi249_0 hl249_0
                    replace p249 := eq_true p249
                    replace q249 := eq_true q249
                    refine start_ (n := 32) (S := fun w' => w'.cell? ⟨gb231, 0, none⟩ = some (.int .i64 a0_0) ∧ w'.cell? ⟨gb231, 1, none⟩ = some (.int .i64 a0_1) ∧ w'.cell? ⟨gb231, 2, none⟩ = some (.slice A0_2 l0_2.length c0_2) ∧ w'.cell? ⟨gb231, 3, none⟩ = some (.int .i64 a0_3) ∧ w'.cell? ⟨gb231, 4, none⟩ = some (.int .i64 a0_4) ∧ w'.cell? ⟨gb231, 5, none⟩ = some (.int .i64 a0_5) ∧ w'.cell? ⟨gb231, 6, none⟩ = some (.int .i64 a0_6) ∧ w'.cell? (ad247.add (x13_1).toNat) = some (.slice (some ad248) (rd_L1 t236 x13_1).length c247_0) ∧ w'.cell? (ad248.add ((ji43)).toNat) = some (.int .i64 (rd (rd_L1 t236 x13_1) (ji43))) ∧ w'.cell? (ad247.add ((ji46)).toNat) = some (.slice A249_0 (rd_L1 t236 (ji46)).length c249_0)) (ds := []) m0_ (by kernel_rfl) rfl rfl ⟨(blk_cell BK231.out 0).trans rfl, (blk_cell BK231.out 1).trans rfl, (blk_cell BK231.out 2).trans rfl, (blk_cell BK231.out 3).trans rfl, (blk_cell BK231.out 4).trans rfl, (blk_cell BK231.out 5).trans rfl, (blk_cell BK231.out 6).trans rfl, hx247_0, hx248_0, hx249_0⟩ (fun hHeld => ?_); refine with_tabW impl_CheapestWay.tab17 impl_CheapestWay.bits17 (fun HT_ HW_ => ?_)
                    generalize w58.drew = w59 at HO_9 HO_11 BK231 HB HL247_0 HL249_0 HR247_0 HR249_0 hx247_0 hx248_0 hx249_0 hHeld ⊢
                    refine pure_ (i := 0) (N := some 53) (v := ?_) (a' := ?_) m1_ rfl rfl (any_of HT_.out (by kernel_rfl)) (fun _ _ _ h => h) (Or.inl ⟨by rfl, ?_⟩) ?_ ?_
                    rotate_left
                    ·intro w'
                     go_simp
                     with_reducible rfl
                    rotate_left
                    ·simp only [Act.put, s1, s2, s3, i64_w, i32_w]
                     rfl
                    refine pure_ (i := 1) (N := some 54) (v := ?_) (a' := ?_) m2_ rfl rfl (any_of HT_.out (by kernel_rfl)) (fun _ _ _ h => h) (Or.inl ⟨by rfl, ?_⟩) ?_ ?_
                    rotate_left
                    ·intro w'
                     go_simp
                     with_reducible rfl
                    rotate_left
                    ·simp only [Act.put, s1, s2, s3, i64_w, i32_w]
                     rfl
                    refine pure_ (i := 2) (N := some 55) (v := ?_) (a' := ?_) m3_ rfl rfl (any_of HT_.out (by kernel_rfl)) (fun _ _ _ h => h) (Or.inl ⟨by rfl, ?_⟩) ?_ ?_
                    rotate_left
                    ·intro w'
                     go_simp
                     with_reducible rfl
                    rotate_left
                    ·simp only [Act.put, s1, s2, s3, i64_w, i32_w]
                     rfl
                    refine pure_ (i := 3) (N := some 56) (v := ?_) (a' := ?_) m4_ rfl rfl (any_of HT_.out (by kernel_rfl)) (fun _ _ _ h => h) (Or.inl ⟨by rfl, ?_⟩) ?_ ?_
                    rotate_left
                    ·intro w'
                     go_simp
                     with_reducible rfl
                    rotate_left
                    ·simp only [Act.put, s1, s2, s3, i64_w, i32_w]
                     rfl
                    refine pure_ (i := 4) (N := some 57) (v := ?_) (a' := ?_) m5_ rfl rfl (any_of HT_.out (by kernel_rfl)) (fun _ _ _ h => h) (Or.inl ⟨by rfl, ?_⟩) ?_ ?_
                    rotate_left
                    ·intro w'
                     go_simp
                     with_reducible rfl
                    rotate_left
                    ·simp only [Act.put, s1, s2, s3, i64_w, i32_w]
                     rfl
                    refine pure_ (i := 5) (N := some 58) (v := ?_) (a' := ?_) m6_ rfl rfl (any_of HT_.out (by kernel_rfl)) (fun _ _ _ h => h) (Or.inl ⟨by rfl, ?_⟩) ?_ ?_
                    rotate_left
                    ·intro w'
                     go_simp
                     with_reducible rfl
                    rotate_left
                    ·simp only [Act.put, s1, s2, s3, i64_w, i32_w]
                     rfl
                    refine pure_ (i := 6) (N := some 59) (v := ?_) (a' := ?_) m7_ rfl rfl (any_of HT_.out (by kernel_rfl)) (fun _ _ _ h => h) (Or.inl ⟨by rfl, ?_⟩) ?_ ?_
                    rotate_left
                    ·intro w'
                     go_simp
                     with_reducible rfl
                    rotate_left
                    ·simp only [Act.put, s1, s2, s3, i64_w, i32_w]
                     rfl
                    refine pure_ (i := 7) (N := some 60) (v := ?_) (a' := ?_) m8_ rfl rfl (any_of HT_.out (by kernel_rfl)) (fun _ _ _ h => h) (Or.inl ⟨by rfl, ?_⟩) ?_ ?_
                    rotate_left
                    ·intro w'
                     go_simp
                     with_reducible rfl
                    rotate_left
                    ·simp only [Act.put, s1, s2, s3, i64_w, i32_w]
                     rfl
                    refine pure_ (i := 8) (N := some 61) (v := ?_) (a' := ?_) m9_ rfl rfl (any_of HT_.out (by kernel_rfl)) (fun _ _ _ h => h) (Or.inl ⟨by rfl, ?_⟩) ?_ ?_
                    rotate_left
                    ·intro w'
                     go_simp
                     with_reducible rfl
                    rotate_left
                    ·simp only [Act.put, s1, s2, s3, i64_w, i32_w]
                     rfl
                    refine pure_ (i := 9) (N := some 62) (v := ?_) (a' := ?_) m10_ rfl rfl (any_of HT_.out (by kernel_rfl)) (fun _ _ _ h => h) (Or.inl ⟨by rfl, ?_⟩) ?_ ?_
                    rotate_left
                    ·intro w'
                     go_simp
                     with_reducible rfl
                    rotate_left
                    ·simp only [Act.put, s1, s2, s3, i64_w, i32_w]
                     rfl
                    refine pure_ (i := 10) (N := some 63) (v := ?_) (a' := ?_) m11_ rfl rfl (any_of HT_.out (by kernel_rfl)) (fun _ _ _ h => h) (Or.inl ⟨by rfl, ?_⟩) ?_ ?_
                    rotate_left
                    ·intro w'
                     go_simp
                     with_reducible rfl
                    rotate_left
                    ·simp only [Act.put, s1, s2, s3, i64_w, i32_w]
                     rfl
                    refine pure_ (i := 11) (N := some 64) (v := ?_) (a' := ?_) m12_ rfl rfl (any_of HT_.out (by kernel_rfl)) (fun _ _ _ h => h) (Or.inl ⟨by rfl, ?_⟩) ?_ ?_
                    rotate_left
                    ·intro w'
                     go_simp
                     with_reducible rfl
                    rotate_left
                    ·simp only [Act.put, s1, s2, s3, i64_w, i32_w]
                     rfl
                    refine pure_ (i := 13) (N := some 66) (v := ?_) (a' := ?_) m33_ rfl rfl (any_of HT_.out (by kernel_rfl)) (fun _ _ _ h => h) (Or.inl ⟨by rfl, ?_⟩) ?_ ?_
                    rotate_left
                    ·intro w'
                     go_simp
                     with_reducible rfl
                    rotate_left
                    ·simp only [Act.put, s1, s2, s3, i64_w, i32_w]
                     rfl
                    refine pure_ (i := 14) (N := some 67) (v := ?_) (a' := ?_) m34_ rfl rfl (any_of HT_.out (by kernel_rfl)) (fun _ _ _ h => h) (Or.inl ⟨by rfl, ?_⟩) ?_ ?_
                    rotate_left
                    ·intro w'
                     go_simp
                     with_reducible rfl
                    rotate_left
                    ·simp only [Act.put, s1, s2, s3, i64_w, i32_w]
                     rfl
                    refine pure_ (i := 15) (N := some 68) (v := ?_) (a' := ?_) m35_ rfl rfl (any_of HT_.out (by kernel_rfl)) (fun _ _ _ h => h) (Or.inl ⟨by rfl, ?_⟩) ?_ ?_
                    rotate_left
                    ·intro w'
                     go_simp
                     with_reducible rfl
                    rotate_left
                    ·simp only [Act.put, s1, s2, s3, i64_w, i32_w]
                     rfl
                    refine pure_ (i := 16) (N := some 69) (v := ?_) (a' := ?_) m36_ rfl rfl (any_of HT_.out (by kernel_rfl)) (fun _ _ _ h => h) (Or.inl ⟨by rfl, ?_⟩) ?_ ?_
                    rotate_left
                    ·intro w'
                     go_simp
                     with_reducible rfl
                    rotate_left
                    ·simp only [Act.put, s1, s2, s3, i64_w, i32_w]
                     rfl
                    refine pure_ (i := 20) (N := some 73) (v := ?_) (a' := ?_) m37_ rfl rfl (any_of HT_.out (by kernel_rfl)) (fun _ _ _ h => h) (Or.inl ⟨by rfl, ?_⟩) ?_ ?_
                    rotate_left
                    ·intro w'
                     go_simp
                     with_reducible rfl
                    rotate_left
                    ·simp only [Act.put, s1, s2, s3, i64_w, i32_w]
                     rfl
                    refine pure_ (i := 21) (N := some 74) (v := ?_) (a' := ?_) m38_ rfl rfl (any_of HT_.out (by kernel_rfl)) (fun _ _ _ h => h) (Or.inl ⟨by rfl, ?_⟩) ?_ ?_
                    rotate_left
                    ·intro w'
                     go_simp
                     with_reducible rfl
                    rotate_left
                    ·simp only [Act.put, s1, s2, s3, i64_w, i32_w]
                     rfl
                    refine pure_ (i := 22) (N := some 75) (v := ?_) (a' := ?_) m39_ rfl rfl (any_of HT_.out (by kernel_rfl)) (fun _ _ _ h => h) (Or.inl ⟨by rfl, ?_⟩) ?_ ?_
                    rotate_left
                    ·intro w'
                     go_simp
                     with_reducible rfl
                    rotate_left
                    ·simp only [Act.put, s1, s2, s3, i64_w, i32_w]
                     rfl
                    refine pure_ (i := 23) (N := some 76) (v := ?_) (a' := ?_) m40_ rfl rfl (any_of HT_.out (by kernel_rfl)) (fun _ _ _ h => h) (Or.inl ⟨by rfl, ?_⟩) ?_ ?_
                    rotate_left
                    ·intro w'
                     go_simp
                     with_reducible rfl
                    rotate_left
                    ·simp only [Act.put, s1, s2, s3, i64_w, i32_w]
                     rfl
                    refine pure_ (i := 25) (N := some 78) (v := ?_) (a' := ?_) m41_ rfl rfl (any_of HT_.out (by kernel_rfl)) (fun _ _ _ h => h) (Or.inl ⟨by rfl, ?_⟩) ?_ ?_
                    rotate_left
                    ·intro w'
                     go_simp
                     with_reducible rfl
                    rotate_left
                    ·simp only [Act.put, s1, s2, s3, i64_w, i32_w]
                     rfl
                    refine pure_ (i := 26) (N := some 79) (v := ?_) (a' := ?_) m42_ rfl rfl (any_of HT_.out (by kernel_rfl)) (fun _ _ _ h => h) (Or.inl ⟨by rfl, ?_⟩) ?_ ?_
                    rotate_left
                    ·intro w'
                     go_simp
                     with_reducible rfl
                    rotate_left
                    ·simp only [Act.put, s1, s2, s3, i64_w, i32_w]
                     rfl
                    refine pure_ (i := 27) (N := some 80) (v := ?_) (a' := ?_) m43_ rfl rfl (any_of HT_.out (by kernel_rfl)) (fun _ _ _ h => h) (Or.inl ⟨by rfl, ?_⟩) ?_ ?_
                    rotate_left
                    ·intro w'
                     go_simp
                     with_reducible rfl
                    rotate_left
                    ·simp only [Act.put, s1, s2, s3, i64_w, i32_w]
                     rfl
                    refine pure_ (i := 28) (N := some 81) (v := ?_) (a' := ?_) m44_ rfl rfl (any_of HT_.out (by kernel_rfl)) (fun _ _ _ h => h) (Or.inl ⟨by rfl, ?_⟩) ?_ ?_
                    rotate_left
                    ·intro w'
                     go_simp
                     with_reducible rfl
                    rotate_left
                    ·simp only [Act.put, s1, s2, s3, i64_w, i32_w]
                     rfl
                    refine take_ (i := 12) (N := some 65) (v := ?_) (a' := ?_) m45_ rfl rfl (take_ofW HT_.out HW_.out (by kernel_rfl)) (fun _ _ _ h => h) (Or.inl ⟨by rfl, ?_⟩) hHeld ?_ ?_
                    rotate_left
                    ·rintro w' ⟨s0, s1, s2, s3, s4, s5, s6, s7, s8, s9⟩
                     go_simp
                     with_reducible rfl
                    rotate_left
                    ·simp only [Act.put, s1, s2, s3, i64_w, i32_w]
                     rfl
                    refine pure_ (i := 17) (N := some 70) (v := ?_) (a' := ?_) m46_ rfl rfl (any_of HT_.out (by kernel_rfl)) (fun _ _ _ h => h) (Or.inl ⟨by rfl, ?_⟩) ?_ ?_
                    rotate_left
                    ·intro w'
                     go_simp
                     with_reducible rfl
                    rotate_left
                    ·simp only [Act.put, s1, s2, s3, i64_w, i32_w]
                     rfl
                    refine take_ (i := 18) (N := some 71) (v := ?_) (a' := ?_) m47_ rfl rfl (take_ofW HT_.out HW_.out (by kernel_rfl)) (fun _ _ _ h => h) (Or.inl ⟨by rfl, ?_⟩) hHeld ?_ ?_
                    rotate_left
                    ·rintro w' ⟨s0, s1, s2, s3, s4, s5, s6, s7, s8, s9⟩
                     go_simp
                     with_reducible rfl
                    rotate_left
                    ·simp only [Act.put, s1, s2, s3, i64_w, i32_w]
                     rfl
                    refine take_ (i := 19) (N := some 72) (v := ?_) (a' := ?_) m48_ rfl rfl (take_ofW HT_.out HW_.out (by kernel_rfl)) (fun _ _ _ h => h) (Or.inl ⟨by rfl, ?_⟩) hHeld ?_ ?_
                    rotate_left
                    ·rintro w' ⟨s0, s1, s2, s3, s4, s5, s6, s7, s8, s9⟩
                     go_simp
                     with_reducible rfl
                    rotate_left
                    ·simp only [Act.put, s1, s2, s3, i64_w, i32_w]
                     rfl
                    refine take_ (i := 24) (N := some 77) (v := ?_) (a' := ?_) m29_ rfl rfl (take_ofW HT_.out HW_.out (by kernel_rfl)) (fun _ _ _ h => h) (Or.inl ⟨by rfl, ?_⟩) hHeld ?_ ?_
                    rotate_left
                    ·rintro w' ⟨s0, s1, s2, s3, s4, s5, s6, s7, s8, s9⟩
                     go_simp
                     with_reducible rfl
                    rotate_left
                    ·simp only [Act.put, s1, s2, s3, i64_w, i32_w]
                     rfl
                    refine one_ (i := 29) (N := some 82) m30_ rfl rfl (one_of HT_.out (by kernel_rfl)) (by decide) (fun K hK => ?_)
                    refine goes_ Tryd.func62 (by kernel_rfl) rfl #[.agg #[.int .i64 a0_0, .int .i64 a0_1, .slice A0_2 l0_2.length c0_2, .int .i64 a0_3, .int .i64 a0_4, .int .i64 a0_5, .int .i64 a0_6], .slice A249_0 (rd_L1 t236 (ji46)).length c249_0, .int .i64 (rd x11_1 (ji30)), .int .i64 t246, .int .i64 x12_2, .int .i64 x46_2] (by rfl) rfl rfl zu3' ?_
                    with_reducible refine (impl_moveCost.calls a0_0 a0_1 _ _ l0_2 a0_3 a0_4 a0_5 a0_6 _ _ (rd_L1 t236 (ji46)) (rd x11_1 (ji30)) t246 x12_2 x46_2 t250 _ ?side1 ?side2 ?side3 ?side4 A49.out).mono ?_
                    (case side1 => exact zb')
                    (case side2 => exact zn1')
                    (case side3 => exact zy3')
                    (case side4 => exact HC249_0.out)
                    rintro e w60 ⟨rfl, hb⟩
                    have HS7_ := (hb.cell (World.block_lt_of_cell? _ _ (hHeld.2.2.2.2.2.2.2.1))).trans (hHeld.2.2.2.2.2.2.2.1)
                    have HS8_ := (hb.cell (World.block_lt_of_cell? _ _ (hHeld.2.2.2.2.2.2.2.2.1))).trans (hHeld.2.2.2.2.2.2.2.2.1)
                    have HS9_ := (hb.cell (World.block_lt_of_cell? _ _ (hHeld.2.2.2.2.2.2.2.2.2))).trans (hHeld.2.2.2.2.2.2.2.2.2)
                    refine ⟨_, rfl, ?_⟩
                    have n0_ := am (Kd.N_below zc1' hb)
                    have n1_ := am (Kd.R_below za1' hb)
                    have n2_ := am (Kd.V_below (by (with_reducible repeat (first | apply Kd.V_alloc | apply Kd.V_drewN | apply Kd.V_drew)); exact HL247_0.out) hb)
                    have n3_ := am (Kd.V_below (by (with_reducible repeat (first | apply Kd.V_alloc | apply Kd.V_drewN | apply Kd.V_drew)); exact HL249_0.out) hb)
                    have n4_ := am (blk_below (g := gb231) (o := .cells #[.int .i64 a0_0, .int .i64 a0_1, .slice A0_2 l0_2.length c0_2, .int .i64 a0_3, .int .i64 a0_4, .int .i64 a0_5, .int .i64 a0_6] 28 (0, 0)) zl' hb)
                    have n5_ := am (Kd.C_below zv1' hb)
                    have n6_ := am (Kd.C_below zw1' hb)
                    have n7_ := am (below_step zh' hb)
                    clear HO_9
                    clear HO_11
                    clear HL247_0
                    clear HL249_0
                    clear BK231
                    clear HR247_0
                    clear HR249_0
                    clear HB
                    have HO_9 := n0_
                    have HO_11 := n1_
                    have HL247_0 := n2_
                    have HL249_0 := n3_
                    have BK231 := n4_
                    have HR247_0 := n5_
                    have HR249_0 := n6_
                    have HB := n7_
                    clear n0_ n1_ n2_ n3_ n4_ n5_ n6_ n7_
                    (try clear hb)
                    (try clear hb2)
                    (try clear hk)
                    (try clear hi)
                    refine hK.out _ _ ⟨(blk_cell BK231.out 0).trans rfl, (blk_cell BK231.out 1).trans rfl, (blk_cell BK231.out 2).trans rfl, (blk_cell BK231.out 3).trans rfl, (blk_cell BK231.out 4).trans rfl, (blk_cell BK231.out 5).trans rfl, (blk_cell BK231.out 6).trans rfl, HS7_, HS8_, HS9_⟩ (fun hHeld => ?_)
                    clear hK K
                    refine norm_ (a' := ?_) ?_ ?_
                    rotate_left
                    ·show Act.put _ (some 82) _ = _
                     simp only [Act.put, s1, s2, s3, i64_w, i32_w]
                     rfl
                    refine pure_ (i := 30) (N := some 83) (v := ?_) (a' := ?_) m31_ rfl rfl (any_of HT_.out (by kernel_rfl)) (fun _ _ _ h => h) (Or.inl ⟨by rfl, ?_⟩) ?_ ?_
                    rotate_left
                    ·intro w'
                     go_simp
                     with_reducible rfl
                    rotate_left
                    ·simp only [Act.put, s1, s2, s3, i64_w, i32_w]
                     rfl
                    refine pure_ (i := 31) (N := some 84) (v := ?_) (a' := ?_) m32_ rfl rfl (any_of HT_.out (by kernel_rfl)) (fun _ _ _ h => h) (Or.inl ⟨by rfl, ?_⟩) ?_ ?_
                    rotate_left
                    ·intro w'
                     go_simp
                     with_reducible rfl
                    rotate_left
                    ·simp only [Act.put, s1, s2, s3, i64_w, i32_w]
                     rfl
                    refine done_ (done_of HT_.out (by kernel_rfl)) ?_
                    try go_wp2
                    go_roundg k2
                    case measure => have := HK1.out; have := HK2.out; omega
                    case rel => exact ⟨(x11_2), (x12_2), (wrap64 (x46_2 + 1)), zd', zd', H', ⟨by have := HK1.out; have := HK2.out.1; omega, HX4.out⟩, ⟨zc1'⟩, ⟨za1'⟩, ⟨zl'⟩, ⟨zh'⟩⟩
                  ·rw [if_neg c48] at H
                   exact absurd H (by simp)
                 ·rw [if_neg c47] at H
                  exact absurd H (by simp)
                ·rw [if_neg c45] at H
                 exact absurd H (by simp)
               ·rw [if_neg c44] at H
                exact absurd H (by simp)
              ·rw [if_neg c42] at H
               exact absurd H (by simp)
             ·rw [if_neg c41] at H
              exact absurd H (by simp)
           ·rw [if_neg c36] at H
            have c36b0 : decide (0 ≤ t246) = false := decide_eq_false c36
            clear c36
            have H' := Aside0.mk H
            clear H
            have hcz61_0 : wr.cell? ⟨gb231, 0, none⟩ = some (.int .i64 a0_0) := (blk_cell BK231.out 0).trans rfl
            have hcz61_1 : wr.cell? ⟨gb231, 1, none⟩ = some (.int .i64 a0_1) := (blk_cell BK231.out 1).trans rfl
            have hcz61_2 : wr.cell? ⟨gb231, 2, none⟩ = some (.slice A0_2 l0_2.length c0_2) := (blk_cell BK231.out 2).trans rfl
            have hcz61_3 : wr.cell? ⟨gb231, 3, none⟩ = some (.int .i64 a0_3) := (blk_cell BK231.out 3).trans rfl
            have hcz61_4 : wr.cell? ⟨gb231, 4, none⟩ = some (.int .i64 a0_4) := (blk_cell BK231.out 4).trans rfl
            have hcz61_5 : wr.cell? ⟨gb231, 5, none⟩ = some (.int .i64 a0_5) := (blk_cell BK231.out 5).trans rfl
            have hcz61_6 : wr.cell? ⟨gb231, 6, none⟩ = some (.int .i64 a0_6) := (blk_cell BK231.out 6).trans rfl
            have hfz61_0 := blk_frozen BK231.out 0
            have hfz61_1 := blk_frozen BK231.out 1
            have hfz61_2 := blk_frozen BK231.out 2
            have hfz61_3 := blk_frozen BK231.out 3
            have hfz61_4 := blk_frozen BK231.out 4
            have hfz61_5 := blk_frozen BK231.out 5
            have hfz61_6 := blk_frozen BK231.out 6
            try go_wp2_with (first | ((with_reducible refine gate_callee (f := 61) rfl ?_); refine goesL_ (some 52) rfl rfl Tryd.func61 (by kernel_rfl) rfl #[.agg #[.int .i64 a0_0, .int .i64 a0_1, .slice A0_2 l0_2.length c0_2, .int .i64 a0_3, .int .i64 a0_4, .int .i64 a0_5, .int .i64 a0_6], .int .i64 (rd x11_1 (ji30)), .int .i64 x46_2] rfl za2' ?_; (with_reducible refine (impl_sideOf.calls a0_0 a0_1 _ _ l0_2 a0_3 a0_4 a0_5 a0_6 (rd x11_1 (ji30)) x46_2 t246 _ ?side1 ?side2 A35.out).mono ?_); (case side1 => exact zb'); (case side2 => exact zn1'); rintro e w62 ⟨rfl, hb⟩; refine ⟨_, rfl, ?_⟩; have n0_ := am (Kd.N_below zc1' hb); have n1_ := am (Kd.R_below za1' hb); have n2_ := am (blk_below (g := gb231) (o := .cells #[.int .i64 a0_0, .int .i64 a0_1, .slice A0_2 l0_2.length c0_2, .int .i64 a0_3, .int .i64 a0_4, .int .i64 a0_5, .int .i64 a0_6] 28 (0, 0)) zl' hb); have n3_ := am (below_step zh' hb); clear HO_9; clear HO_11; clear BK231; clear HB; have HO_9 := n0_; have HO_11 := n1_; have BK231 := n2_; have HB := n3_; clear n0_ n1_ n2_ n3_; (try clear hb); (try clear hb2); (try clear hk); (try clear hi)))
            have n0_ := am (Kd.N_drew HO_9.out)
            have n1_ := am (Kd.R_drew HO_11.out)
            have n2_ := am (blk_drew BK231.out)
            have n3_ := am (below_drew1 HB.out)
            clear HO_9
            clear HO_11
            clear BK231
            clear HB
            have HO_9 := n0_
            have HO_11 := n1_
            have BK231 := n2_
            have HB := n3_
            clear n0_ n1_ n2_ n3_
            refine start_ (n := 32) (S := fun w' => True) (ds := []) m0_ (by kernel_rfl) rfl rfl trivial (fun hHeld => ?_); refine with_tabW impl_CheapestWay.tab17 impl_CheapestWay.bits17 (fun HT_ HW_ => ?_)
            generalize w62.drew = w63 at HO_9 HO_11 BK231 HB hHeld ⊢
            refine pure_ (i := 0) (N := some 53) (v := ?_) (a' := ?_) m1_ rfl rfl (any_of HT_.out (by kernel_rfl)) (fun _ _ _ h => h) (Or.inl ⟨by rfl, ?_⟩) ?_ ?_
            rotate_left
            ·intro w'
             go_simp
             with_reducible rfl
            rotate_left
            ·simp only [Act.put, s1, s2, s3, i64_w, i32_w]
             rfl
            refine pure_ (i := 1) (N := some 54) (v := ?_) (a' := ?_) m2_ rfl rfl (any_of HT_.out (by kernel_rfl)) (fun _ _ _ h => h) (Or.inl ⟨by rfl, ?_⟩) ?_ ?_
            rotate_left
            ·intro w'
             go_simp
             with_reducible rfl
            rotate_left
            ·simp only [Act.put, s1, s2, s3, i64_w, i32_w]
             rfl
            refine pure_ (i := 2) (N := some 55) (v := ?_) (a' := ?_) m3_ rfl rfl (any_of HT_.out (by kernel_rfl)) (fun _ _ _ h => h) (Or.inl ⟨by rfl, ?_⟩) ?_ ?_
            rotate_left
            ·intro w'
             go_simp
             with_reducible rfl
            rotate_left
            ·simp only [Act.put, s1, s2, s3, i64_w, i32_w]
             rfl
            refine pure_ (i := 3) (N := some 56) (v := undef) (a' := ?_) m4_ rfl rfl (any_of HT_.out (by kernel_rfl)) (fun _ _ _ h => h) (Or.inr ⟨by rfl, rfl⟩) ?_ ?_
            rotate_left
            ·simp only [Act.put, s1, s2, s3, i64_w, i32_w]
             rfl
            refine pure_ (i := 4) (N := some 57) (v := undef) (a' := ?_) m5_ rfl rfl (any_of HT_.out (by kernel_rfl)) (fun _ _ _ h => h) (Or.inr ⟨by rfl, rfl⟩) ?_ ?_
            rotate_left
            ·simp only [Act.put, s1, s2, s3, i64_w, i32_w]
             rfl
            refine pure_ (i := 5) (N := some 58) (v := undef) (a' := ?_) m6_ rfl rfl (any_of HT_.out (by kernel_rfl)) (fun _ _ _ h => h) (Or.inr ⟨by rfl, rfl⟩) ?_ ?_
            rotate_left
            ·simp only [Act.put, s1, s2, s3, i64_w, i32_w]
             rfl
            refine pure_ (i := 6) (N := some 59) (v := undef) (a' := ?_) m7_ rfl rfl (any_of HT_.out (by kernel_rfl)) (fun _ _ _ h => h) (Or.inr ⟨by rfl, rfl⟩) ?_ ?_
            rotate_left
            ·simp only [Act.put, s1, s2, s3, i64_w, i32_w]
             rfl
            refine pure_ (i := 7) (N := some 60) (v := ?_) (a' := ?_) m8_ rfl rfl (any_of HT_.out (by kernel_rfl)) (fun _ _ _ h => h) (Or.inl ⟨by rfl, ?_⟩) ?_ ?_
            rotate_left
            ·intro w'
             go_simp
             with_reducible rfl
            rotate_left
            ·simp only [Act.put, s1, s2, s3, i64_w, i32_w]
             rfl
            refine pure_ (i := 8) (N := some 61) (v := ?_) (a' := ?_) m9_ rfl rfl (any_of HT_.out (by kernel_rfl)) (fun _ _ _ h => h) (Or.inl ⟨by rfl, ?_⟩) ?_ ?_
            rotate_left
            ·intro w'
             go_simp
             with_reducible rfl
            rotate_left
            ·simp only [Act.put, s1, s2, s3, i64_w, i32_w]
             rfl
            refine pure_ (i := 9) (N := some 62) (v := undef) (a' := ?_) m10_ rfl rfl (any_of HT_.out (by kernel_rfl)) (fun _ _ _ h => h) (Or.inr ⟨by rfl, rfl⟩) ?_ ?_
            rotate_left
            ·simp only [Act.put, s1, s2, s3, i64_w, i32_w]
             rfl
            refine pure_ (i := 10) (N := some 63) (v := undef) (a' := ?_) m11_ rfl rfl (any_of HT_.out (by kernel_rfl)) (fun _ _ _ h => h) (Or.inr ⟨by rfl, rfl⟩) ?_ ?_
            rotate_left
            ·simp only [Act.put, s1, s2, s3, i64_w, i32_w]
             rfl
            refine pure_ (i := 11) (N := some 64) (v := undef) (a' := ?_) m12_ rfl rfl (any_of HT_.out (by kernel_rfl)) (fun _ _ _ h => h) (Or.inr ⟨by rfl, rfl⟩) ?_ ?_
            rotate_left
            ·simp only [Act.put, s1, s2, s3, i64_w, i32_w]
             rfl
            refine pure_ (i := 12) (N := some 65) (v := undef) (a' := ?_) m13_ rfl rfl (any_of HT_.out (by kernel_rfl)) (fun _ _ _ h => h) (Or.inr ⟨by rfl, rfl⟩) ?_ ?_
            rotate_left
            ·simp only [Act.put, s1, s2, s3, i64_w, i32_w]
             rfl
            refine pure_ (i := 13) (N := some 66) (v := undef) (a' := ?_) m14_ rfl rfl (any_of HT_.out (by kernel_rfl)) (fun _ _ _ h => h) (Or.inr ⟨by rfl, rfl⟩) ?_ ?_
            rotate_left
            ·simp only [Act.put, s1, s2, s3, i64_w, i32_w]
             rfl
            refine pure_ (i := 14) (N := some 67) (v := undef) (a' := ?_) m15_ rfl rfl (any_of HT_.out (by kernel_rfl)) (fun _ _ _ h => h) (Or.inr ⟨by rfl, rfl⟩) ?_ ?_
            rotate_left
            ·simp only [Act.put, s1, s2, s3, i64_w, i32_w]
             rfl
            refine pure_ (i := 15) (N := some 68) (v := undef) (a' := ?_) m16_ rfl rfl (any_of HT_.out (by kernel_rfl)) (fun _ _ _ h => h) (Or.inr ⟨by rfl, rfl⟩) ?_ ?_
            rotate_left
            ·simp only [Act.put, s1, s2, s3, i64_w, i32_w]
             rfl
            refine pure_ (i := 16) (N := some 69) (v := undef) (a' := ?_) m17_ rfl rfl (any_of HT_.out (by kernel_rfl)) (fun _ _ _ h => h) (Or.inr ⟨by rfl, rfl⟩) ?_ ?_
            rotate_left
            ·simp only [Act.put, s1, s2, s3, i64_w, i32_w]
             rfl
            refine pure_ (i := 17) (N := some 70) (v := undef) (a' := ?_) m18_ rfl rfl (any_of HT_.out (by kernel_rfl)) (fun _ _ _ h => h) (Or.inr ⟨by rfl, rfl⟩) ?_ ?_
            rotate_left
            ·simp only [Act.put, s1, s2, s3, i64_w, i32_w]
             rfl
            refine pure_ (i := 18) (N := some 71) (v := undef) (a' := ?_) m19_ rfl rfl (any_of HT_.out (by kernel_rfl)) (fun _ _ _ h => h) (Or.inr ⟨by rfl, rfl⟩) ?_ ?_
            rotate_left
            ·simp only [Act.put, s1, s2, s3, i64_w, i32_w]
             rfl
            refine pure_ (i := 19) (N := some 72) (v := undef) (a' := ?_) m20_ rfl rfl (any_of HT_.out (by kernel_rfl)) (fun _ _ _ h => h) (Or.inr ⟨by rfl, rfl⟩) ?_ ?_
            rotate_left
            ·simp only [Act.put, s1, s2, s3, i64_w, i32_w]
             rfl
            refine pure_ (i := 20) (N := some 73) (v := undef) (a' := ?_) m21_ rfl rfl (any_of HT_.out (by kernel_rfl)) (fun _ _ _ h => h) (Or.inr ⟨by rfl, rfl⟩) ?_ ?_
            rotate_left
            ·simp only [Act.put, s1, s2, s3, i64_w, i32_w]
             rfl
            refine pure_ (i := 21) (N := some 74) (v := undef) (a' := ?_) m22_ rfl rfl (any_of HT_.out (by kernel_rfl)) (fun _ _ _ h => h) (Or.inr ⟨by rfl, rfl⟩) ?_ ?_
            rotate_left
            ·simp only [Act.put, s1, s2, s3, i64_w, i32_w]
             rfl
            refine pure_ (i := 22) (N := some 75) (v := undef) (a' := ?_) m23_ rfl rfl (any_of HT_.out (by kernel_rfl)) (fun _ _ _ h => h) (Or.inr ⟨by rfl, rfl⟩) ?_ ?_
            rotate_left
            ·simp only [Act.put, s1, s2, s3, i64_w, i32_w]
             rfl
            refine pure_ (i := 23) (N := some 76) (v := undef) (a' := ?_) m24_ rfl rfl (any_of HT_.out (by kernel_rfl)) (fun _ _ _ h => h) (Or.inr ⟨by rfl, rfl⟩) ?_ ?_
            rotate_left
            ·simp only [Act.put, s1, s2, s3, i64_w, i32_w]
             rfl
            refine pure_ (i := 24) (N := some 77) (v := undef) (a' := ?_) m25_ rfl rfl (any_of HT_.out (by kernel_rfl)) (fun _ _ _ h => h) (Or.inr ⟨by rfl, rfl⟩) ?_ ?_
            rotate_left
            ·simp only [Act.put, s1, s2, s3, i64_w, i32_w]
             rfl
            refine pure_ (i := 25) (N := some 78) (v := undef) (a' := ?_) m26_ rfl rfl (any_of HT_.out (by kernel_rfl)) (fun _ _ _ h => h) (Or.inr ⟨by rfl, rfl⟩) ?_ ?_
            rotate_left
            ·simp only [Act.put, s1, s2, s3, i64_w, i32_w]
             rfl
            refine pure_ (i := 26) (N := some 79) (v := undef) (a' := ?_) m27_ rfl rfl (any_of HT_.out (by kernel_rfl)) (fun _ _ _ h => h) (Or.inr ⟨by rfl, rfl⟩) ?_ ?_
            rotate_left
            ·simp only [Act.put, s1, s2, s3, i64_w, i32_w]
             rfl
            refine pure_ (i := 27) (N := some 80) (v := undef) (a' := ?_) m28_ rfl rfl (any_of HT_.out (by kernel_rfl)) (fun _ _ _ h => h) (Or.inr ⟨by rfl, rfl⟩) ?_ ?_
            rotate_left
            ·simp only [Act.put, s1, s2, s3, i64_w, i32_w]
             rfl
            refine pure_ (i := 28) (N := some 81) (v := undef) (a' := ?_) m29_ rfl rfl (any_of HT_.out (by kernel_rfl)) (fun _ _ _ h => h) (Or.inr ⟨by rfl, rfl⟩) ?_ ?_
            rotate_left
            ·simp only [Act.put, s1, s2, s3, i64_w, i32_w]
             rfl
            refine pure_ (i := 29) (N := some 82) (v := undef) (a' := ?_) m30_ rfl rfl (any_of HT_.out (by kernel_rfl)) (fun _ _ _ h => h) (Or.inr ⟨by rfl, rfl⟩) ?_ ?_
            rotate_left
            ·simp only [Act.put, s1, s2, s3, i64_w, i32_w]
             rfl
            refine pure_ (i := 30) (N := some 83) (v := undef) (a' := ?_) m31_ rfl rfl (any_of HT_.out (by kernel_rfl)) (fun _ _ _ h => h) (Or.inr ⟨by rfl, rfl⟩) ?_ ?_
            rotate_left
            ·simp only [Act.put, s1, s2, s3, i64_w, i32_w]
             rfl
            refine pure_ (i := 31) (N := some 84) (v := ?_) (a' := ?_) m32_ rfl rfl (any_of HT_.out (by kernel_rfl)) (fun _ _ _ h => h) (Or.inl ⟨by rfl, ?_⟩) ?_ ?_
            rotate_left
            ·intro w'
             go_simp
             with_reducible rfl
            rotate_left
            ·simp only [Act.put, s1, s2, s3, i64_w, i32_w]
             rfl
            refine done_ (done_of HT_.out (by kernel_rfl)) ?_
            try go_wp2
            go_roundg k2
            case measure => have := HK1.out; have := HK2.out; omega
            case rel => exact ⟨(x11_2), (x12_2), (wrap64 (x46_2 + 1)), zd', zd', H', ⟨by have := HK1.out; have := HK2.out.1; omega, HX4.out⟩, ⟨zc1'⟩, ⟨za1'⟩, ⟨zl'⟩, ⟨zh'⟩⟩
          ·rw [if_neg c34] at H
           have c34b0 : decide (x46_2 < 4) = false := decide_eq_false c34
           clear c34
           have H' := Aside0.mk H
           clear H
           go_wp2
           go_roundg k2
           case measure => have := HK1.out; have := HK2.out; omega
           case rel => exact ⟨(x11_2), (x12_2), (wrap64 (x13_1 - 1)), zd', zd', H', ⟨zh3'⟩, ⟨zc1'⟩, ⟨za1'⟩, ⟨zl'⟩, ⟨zh'⟩⟩
       ·rw [if_neg c32] at H
        exact absurd H (by simp)
      ·rw [if_neg c31] at H
       exact absurd H (by simp)
     ·rw [if_neg c29] at H
      have c29b0 : decide (0 < x13_1) = false := decide_eq_false c29
      clear c29
      by_cases c64 : 0 ≤ t239
      ·rw [if_pos c64] at H
       have c64b0 : decide (0 ≤ t239) = true := decide_eq_true c64
       clear c64
       by_cases c65 : t239 < (t236.length : Int)
       ·rw [if_pos c65] at H
        have c65b0 : decide (t239 < (t236.length : Int)) = true := decide_eq_true c65
        clear c65
        obtain ⟨ji66, hji66⟩ : ∃ j_ : Int, (wrap64 ((wrap64 (a1 * 5)) + 4)) = j_ := ⟨_, rfl⟩
        replace H : (if 0 ≤ (ji66) then (if (ji66) < ((rd_L1 t236 t239).length : Int) then (some (x11_1, rd (rd_L1 t236 t239) (ji66), true)) else (none)) else (none)) = some (r1, r2, r3) := by first | (rw [hji66] at H; exact H) | (simp only [hji66] at H ⊢; exact H)
        have hji66w : (IntKind.i64.wrap ((wrap64 (a1 * 5)) + 4)) = ji66 := (i64_w _).trans hji66
        by_cases c67 : 0 ≤ (ji66)
        ·rw [if_pos c67] at H
         have c67b0 : decide (0 ≤ (ji66)) = true := decide_eq_true c67
         clear c67
         by_cases c68 : (ji66) < ((rd_L1 t236 t239).length : Int)
         ·rw [if_pos c68] at H
          have c68b0 : decide ((ji66) < ((rd_L1 t236 t239).length : Int)) = true := decide_eq_true c68
          clear c68
          simp only [Option.some.injEq, Prod.mk.injEq] at H
          obtain ⟨rfl, rfl, rfl⟩ := H
          try go_wp2
          have n0_ := am (Kd.N_drew HO_9.out)
          have n1_ := am (Kd.R_drew HO_11.out)
          have n2_ := am (blk_drew BK231.out)
          have n3_ := am (below_drew1 HB.out)
          clear HO_9
          clear HO_11
          clear BK231
          clear HB
          have HO_9 := n0_
          have HO_11 := n1_
          have BK231 := n2_
          have HB := n3_
          clear n0_ n1_ n2_ n3_
          have p243 : 0 ≤ (t239 : Int) := odt
          have q243 : t239 < (t236.length : Int) := odt
          obtain ⟨ad243, A243_0, c243_0, e243, hx243_0, hl243_0, hi243_0⟩ := at_L1 (Kd.N_reads' HO_9.out).2.2 t239 p243 q243
          cases e243
          obtain ⟨ce243, hce243, hMe243, hcc243⟩ := Kd.N_get HO_9.out [] t239 p243 (by first | exact q243 | exact odt | (have e_ := (Kd.N_reads' HO_9.out).1; omega))
          obtain ⟨ua243_0, uc243_0, rfl, ul243_0, ge243_0⟩ := Kd.FK_slice_open hMe243
          have hv243_0 := hcc243 0 _ rfl
          rw [Nat.add_zero, show ((Kd.slice 3 (Kd.int .i64))).sz = 1 from rfl, Nat.mul_one] at hv243_0
          replace hv243_0 := Option.some.inj (hv243_0.symm.trans hx243_0)
          injection hv243_0 with hva_ hvn_ hvc_
          rw [hva_] at ge243_0
          rw [hvc_] at ul243_0
          have HL243_0 := am (show Kd.V (Kd.int .i64) 3 _ w.heap.size _ _ (rd_L1 t236 t239) from Kd.V_mk ul243_0 ge243_0)
          clear hva_ hvn_ hvc_ ge243_0 ul243_0
          clear hcc243 hce243
          have HR243_0 := Aside0.mk hi243_0
          have HC243_0 := Aside0.mk hl243_0
          clear hi243_0 hl243_0
          replace p243 := eq_true p243
          replace q243 := eq_true q243
          have p244 : 0 ≤ ((ji66) : Int) := odt
          have q244 : (ji66) < ((rd_L1 t236 t239).length : Int) := odt
          obtain ⟨ad244, e244, hx244_0⟩ := Kd.at_int (by repeat (first | (with_reducible exact HR243_0.out) | (with_reducible refine Kd.C_alloc ?_ _) | (with_reducible refine Kd.C_drewN ?_ _) | (with_reducible refine Kd.C_drew ?_) | exact HR243_0.out)) (ji66) p244 q244
          cases e244
          replace p244 := eq_true p244
          replace q244 := eq_true q244
          refine start_ (n := 13) (S := fun w' => w'.cell? (ad243.add (t239).toNat) = some (.slice (some ad244) (rd_L1 t236 t239).length c243_0) ∧ w'.cell? (ad244.add ((ji66)).toNat) = some (.int .i64 (rd (rd_L1 t236 t239) (ji66)))) (ds := []) #[Z,Z,Z,Z,Z,Z,Z,Z,Z,Z,Z,Z,Z] (by kernel_rfl) rfl rfl ⟨hx243_0, hx244_0⟩ (fun hHeld => ?_); refine with_tabW impl_CheapestWay.tab21 impl_CheapestWay.bits21 (fun HT_ HW_ => ?_)
          generalize wr.drew = w69 at HO_9 HO_11 BK231 HB HL243_0 HR243_0 hx243_0 hx244_0 hHeld ⊢
          refine pure_ (i := 0) (N := some 91) (v := ?_) (a' := ?_) #[Y,Z,Z,Z,Z,Z,Z,Z,Z,Z,Z,Z,Z] rfl rfl (any_of HT_.out (by kernel_rfl)) (fun _ _ _ h => h) (Or.inl ⟨by rfl, ?_⟩) ?_ ?_
          rotate_left
          ·intro w'
           go_simp
           with_reducible rfl
          rotate_left
          ·simp only [Act.put, s1, s2, s3, i64_w, i32_w]
           rfl
          refine pure_ (i := 1) (N := some 92) (v := ?_) (a' := ?_) #[Y,Y,Z,Z,Z,Z,Z,Z,Z,Z,Z,Z,Z] rfl rfl (any_of HT_.out (by kernel_rfl)) (fun _ _ _ h => h) (Or.inl ⟨by rfl, ?_⟩) ?_ ?_
          rotate_left
          ·intro w'
           go_simp
           with_reducible rfl
          rotate_left
          ·simp only [Act.put, s1, s2, s3, i64_w, i32_w]
           rfl
          refine pure_ (i := 2) (N := some 93) (v := ?_) (a' := ?_) #[Y,Y,Y,Z,Z,Z,Z,Z,Z,Z,Z,Z,Z] rfl rfl (any_of HT_.out (by kernel_rfl)) (fun _ _ _ h => h) (Or.inl ⟨by rfl, ?_⟩) ?_ ?_
          rotate_left
          ·intro w'
           go_simp
           with_reducible rfl
          rotate_left
          ·simp only [Act.put, s1, s2, s3, i64_w, i32_w]
           rfl
          refine pure_ (i := 3) (N := some 94) (v := ?_) (a' := ?_) #[Y,Y,Y,Y,Z,Z,Z,Z,Z,Z,Z,Z,Z] rfl rfl (any_of HT_.out (by kernel_rfl)) (fun _ _ _ h => h) (Or.inl ⟨by rfl, ?_⟩) ?_ ?_
          rotate_left
          ·intro w'
           go_simp
           with_reducible rfl
          rotate_left
          ·simp only [Act.put, s1, s2, s3, i64_w, i32_w]
           rfl
          refine pure_ (i := 5) (N := some 96) (v := ?_) (a' := ?_) #[Y,Y,Y,Y,Z,Y,Z,Z,Z,Z,Z,Z,Z] rfl rfl (any_of HT_.out (by kernel_rfl)) (fun _ _ _ h => h) (Or.inl ⟨by rfl, ?_⟩) ?_ ?_
          rotate_left
          ·intro w'
           go_simp
           with_reducible rfl
          rotate_left
          ·simp only [Act.put, s1, s2, s3, i64_w, i32_w]
           rfl
          refine pure_ (i := 6) (N := some 97) (v := ?_) (a' := ?_) #[Y,Y,Y,Y,Z,Y,Y,Z,Z,Z,Z,Z,Z] rfl rfl (any_of HT_.out (by kernel_rfl)) (fun _ _ _ h => h) (Or.inl ⟨by rfl, ?_⟩) ?_ ?_
          rotate_left
          ·intro w'
           go_simp
           with_reducible rfl
          rotate_left
          ·simp only [Act.put, s1, s2, s3, i64_w, i32_w]
           rfl
          refine pure_ (i := 7) (N := some 98) (v := ?_) (a' := ?_) #[Y,Y,Y,Y,Z,Y,Y,Y,Z,Z,Z,Z,Z] rfl rfl (any_of HT_.out (by kernel_rfl)) (fun _ _ _ h => h) (Or.inl ⟨by rfl, ?_⟩) ?_ ?_
          rotate_left
          ·intro w'
           go_simp
           with_reducible rfl
          rotate_left
          ·simp only [Act.put, s1, s2, s3, i64_w, i32_w]
           rfl
          refine pure_ (i := 10) (N := some 6) (v := ?_) (a' := ?_) #[Y,Y,Y,Y,Z,Y,Y,Y,Z,Z,Y,Z,Z] rfl rfl (any_of HT_.out (by kernel_rfl)) (fun _ _ _ h => h) (Or.inl ⟨by rfl, ?_⟩) ?_ ?_
          rotate_left
          ·intro w'
           go_simp
           with_reducible rfl
          rotate_left
          ·simp only [Act.put, s1, s2, s3, i64_w, i32_w]
           rfl
          refine take_ (i := 4) (N := some 95) (v := ?_) (a' := ?_) #[Y,Y,Y,Y,Y,Y,Y,Y,Z,Z,Y,Z,Z] rfl rfl (take_ofW HT_.out HW_.out (by kernel_rfl)) (fun _ _ _ h => h) (Or.inl ⟨by rfl, ?_⟩) hHeld ?_ ?_
          rotate_left
          ·rintro w' ⟨s0, s1⟩
           go_simp
           with_reducible rfl
          rotate_left
          ·simp only [Act.put, s1, s2, s3, i64_w, i32_w]
           rfl
          refine pure_ (i := 8) (N := some 99) (v := ?_) (a' := ?_) #[Y,Y,Y,Y,Y,Y,Y,Y,Y,Z,Y,Z,Z] rfl rfl (any_of HT_.out (by kernel_rfl)) (fun _ _ _ h => h) (Or.inl ⟨by rfl, ?_⟩) ?_ ?_
          rotate_left
          ·intro w'
           go_simp
           with_reducible rfl
          rotate_left
          ·simp only [Act.put, s1, s2, s3, i64_w, i32_w]
           rfl
          refine take_ (i := 9) (N := some 100) (v := ?_) (a' := ?_) #[Y,Y,Y,Y,Y,Y,Y,Y,Y,Y,Y,Z,Z] rfl rfl (take_ofW HT_.out HW_.out (by kernel_rfl)) (fun _ _ _ h => h) (Or.inl ⟨by rfl, ?_⟩) hHeld ?_ ?_
          rotate_left
          ·rintro w' ⟨s0, s1⟩
           go_simp
           with_reducible rfl
          rotate_left
          ·simp only [Act.put, s1, s2, s3, i64_w, i32_w]
           rfl
          refine pure_ (i := 11) (N := some 7) (v := ?_) (a' := ?_) #[Y,Y,Y,Y,Y,Y,Y,Y,Y,Y,Y,Y,Z] rfl rfl (any_of HT_.out (by kernel_rfl)) (fun _ _ _ h => h) (Or.inl ⟨by rfl, ?_⟩) ?_ ?_
          rotate_left
          ·intro w'
           go_simp
           with_reducible rfl
          rotate_left
          ·simp only [Act.put, s1, s2, s3, i64_w, i32_w]
           rfl
          refine pure_ (i := 12) (N := some 8) (v := ?_) (a' := ?_) #[Y,Y,Y,Y,Y,Y,Y,Y,Y,Y,Y,Y,Y] rfl rfl (any_of HT_.out (by kernel_rfl)) (fun _ _ _ h => h) (Or.inl ⟨by rfl, ?_⟩) ?_ ?_
          rotate_left
          ·intro w'
           go_simp
           with_reducible rfl
          rotate_left
          ·simp only [Act.put, s1, s2, s3, i64_w, i32_w]
           rfl
          refine done_ (done_of HT_.out (by kernel_rfl)) ?_
          try go_wp2
          go_ret3
          exact ⟨_, by first | rfl | (simp [errW_none, errW_some] <;> rfl) | (simp only [← hji66]; first | rfl | (simp [errW_none, errW_some] <;> rfl)) | (simp [*, errW_none, errW_some] <;> rfl), by (with_reducible repeat (first | apply Kd.R_alloc | apply Kd.R_drewN | apply Kd.R_drew)); exact HO_11.out, by repeat (first | (with_reducible first | exact HB.out | apply ba | apply bn | apply below_drew1 | refine below_set ?_ GE231.out) | exact HB.out)⟩
         ·rw [if_neg c68] at H
          exact absurd H (by simp)
        ·rw [if_neg c67] at H
         exact absurd H (by simp)
       ·rw [if_neg c65] at H
        exact absurd H (by simp)
      ·rw [if_neg c64] at H
       exact absurd H (by simp)
 ·replace c5 := Bool.eq_false_iff.mpr c5
  subst c5
  have H1 : (some (([] : List Int), 0, false)) = some (r1, r2, r3) := by rw [if_neg (show ¬ (false = true) by decide)] at H; exact H
  clear H
  have H := H1
  clear H1
  simp only [Option.some.injEq, Prod.mk.injEq] at H
  obtain ⟨rfl, rfl, rfl⟩ := H
  go_enter Tryd.func24, Tryd.ntmps24
  go_wp2_with (first | ((with_reducible refine gate_dst (N := 3) rfl ?_); refine box_event ?hg (N := 3) ?hd (cs := #[.int .i64 a0_0, .int .i64 a0_1, .slice A0_2 l0_2.length c0_2, .int .i64 a0_3, .int .i64 a0_4, .int .i64 a0_5, .int .i64 a0_6]) (t := 28) ?hr ?_; (case hd => rfl); (case hg => rfl); (case hr => exact ze'); intro gb231 hg w70 hbox hb; have n0_ := am (below_step za' hb); have n1_ := am (hbox); have n2_ := am ((by rw [hg]; exact (below_size za') : w.heap.size ≤ gb231)); have n3_ := am ((by rw [hg]; exact (below_size za') : w.heap.size ≤ gb231)); clear HB; have HB := n0_; have BK231 := n1_; have GW231 := n2_; have GE231 := n3_; clear n0_ n1_ n2_ n3_; clear hb hbox hg; have hcz71_0 : w70.cell? ⟨gb231, 0, none⟩ = some (.int .i64 a0_0) := (blk_cell BK231.out 0).trans rfl; have hcz71_1 : w70.cell? ⟨gb231, 1, none⟩ = some (.int .i64 a0_1) := (blk_cell BK231.out 1).trans rfl; have hcz71_2 : w70.cell? ⟨gb231, 2, none⟩ = some (.slice A0_2 l0_2.length c0_2) := (blk_cell BK231.out 2).trans rfl; have hcz71_3 : w70.cell? ⟨gb231, 3, none⟩ = some (.int .i64 a0_3) := (blk_cell BK231.out 3).trans rfl; have hcz71_4 : w70.cell? ⟨gb231, 4, none⟩ = some (.int .i64 a0_4) := (blk_cell BK231.out 4).trans rfl; have hcz71_5 : w70.cell? ⟨gb231, 5, none⟩ = some (.int .i64 a0_5) := (blk_cell BK231.out 5).trans rfl; have hcz71_6 : w70.cell? ⟨gb231, 6, none⟩ = some (.int .i64 a0_6) := (blk_cell BK231.out 6).trans rfl; have hfz71_0 := blk_frozen BK231.out 0; have hfz71_1 := blk_frozen BK231.out 1; have hfz71_2 := blk_frozen BK231.out 2; have hfz71_3 := blk_frozen BK231.out 3; have hfz71_4 := blk_frozen BK231.out 4; have hfz71_5 := blk_frozen BK231.out 5; have hfz71_6 := blk_frozen BK231.out 6) | ((with_reducible refine gate_dst (N := 21) rfl ?_); refine Kd.R_lit (Kd.int .i64) _ 3 ?hg (N := 21) ?hd (xs := ([a1, a2] : List Int)) (inner := [.int .i64 a1, .int .i64 a2]) (ok := fun _ => True) (okp := fun _ => True) ?hr ?hp (fun _ hk => hk) trivial (Below.refl _ _) (Nat.le_refl _) (by simp) ?_; (case hd => rfl); (case hg => rfl); (case hr => exact ze'); (case hp => exact zw2'); intro v233 w72 ho73 hb hg_ hnew_; clear hg_ hnew_; (first | rw [← Ny232.out] at ho73 | (simp only [Int.reduceToNat] at ho73; rw [← Ny232.out] at ho73)); have n0_ := am (Kd.R_lower ho73 (below_size zh')); have n1_ := am (blk_below (g := gb231) (o := .cells #[.int .i64 a0_0, .int .i64 a0_1, .slice A0_2 l0_2.length c0_2, .int .i64 a0_3, .int .i64 a0_4, .int .i64 a0_5, .int .i64 a0_6] 28 (0, 0)) zl' hb); have n2_ := am (below_step zh' hb); clear BK231; clear HB; have HO234 := n0_; have BK231 := n1_; have HB := n2_; clear n0_ n1_ n2_; clear hb ho73; obtain ⟨Ao74, co74, eo74⟩ := Kd.R_slice HO234.out; subst eo74) | ((with_reducible refine gate_callee (f := 54) rfl ?_); refine goesL_ (some 22) rfl rfl Tryd.func54 (by kernel_rfl) rfl #[.agg #[.int .i64 a0_0, .int .i64 a0_1, .slice A0_2 l0_2.length c0_2, .int .i64 a0_3, .int .i64 a0_4, .int .i64 a0_5, .int .i64 a0_6], .slice Ao74 y232.length co74] rfl zc' ?_; (with_reducible refine (impl_areCells.calls k a0_0 a0_1 _ _ l0_2 a0_3 a0_4 a0_5 a0_6 _ _ y232 false _ ?side1 ?side2 ?side3 ?side4 A4.out).mono ?_); (case side1 => exact zb'); (case side2 => exact zn1'); (case side3 => exact zp2'); (case side4 => exact (Kd.R_reads' HO234.out).2.1); rintro e w75 ⟨rfl, hb⟩; refine ⟨_, rfl, ?_⟩; have n0_ := am (Kd.R_below zo1' hb); have n1_ := am (blk_below (g := gb231) (o := .cells #[.int .i64 a0_0, .int .i64 a0_1, .slice A0_2 l0_2.length c0_2, .int .i64 a0_3, .int .i64 a0_4, .int .i64 a0_5, .int .i64 a0_6] 28 (0, 0)) zl' hb); have n2_ := am (below_step zh' hb); clear HO234; clear BK231; clear HB; have HO234 := n0_; have BK231 := n1_; have HB := n2_; clear n0_ n1_ n2_; (try clear hb); (try clear hb2); (try clear hk); (try clear hi)))
  go_ret3
  exact ⟨_, by first | rfl | (simp [errW_none, errW_some] <;> rfl) | (simp [*, errW_none, errW_some] <;> rfl), by first | exact Kd.R_nil _ _ _ _ _ | exact Kd.N_nil _ _ _ _ _ | exact Kd.V_nil _ _ _ _ _ | exact Kd.Q_nil _ _ _ _ _ | exact Kd.S_nil _ _ _ _ _, by repeat (first | (with_reducible first | exact HB.out | apply ba | apply bn | apply below_drew1 | refine below_set ?_ GE231.out) | exact HB.out)⟩

end Go.Proofs.YtbgjhdhdfdfpkaaDoor.PFnExactCheapestWay
