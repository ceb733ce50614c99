/- Text written by a program for this claim: contracts of the functions of one law. -/
import Derived.Test.YtbgjhdhdfdfpkaaDoorPFnExactCheapestWayx0
import Derived.Test.YtbgjhdhdfdfpkaaDoorPFnExactCheapestWayx1
import Derived.Test.YtbgjhdhdfdfpkaaDoorPFnExactCheapestWayx6
import Derived.Test.YtbgjhdhdfdfpkaaDoorPFnExactCheapestWayx13
namespace Go.Proofs.YtbgjhdhdfdfpkaaDoor.PFnExactCheapestWay
open Go.RowKit Go.Proofs.YtbgjhdhdfdfpkaaDoorW.PrintWords Go.Proofs.YtbgjhdhdfdfpkaaDoorW.PrintLast Go.Proofs.YtbgjhdhdfdfpkaaDoorW.PrintMore
attribute [local go_sem] max2_int min2_int max_two min_two max_three min_three max_four min_four   -- for this text's walks alone
set_option linter.unusedVariables false
set_option linter.unusedSimpArgs false
open ShortPFnExactCheapestWay0

/-! ### laws_FnExactCheapestWay: function 6 -/
mutual
def laws_FnExactCheapestWay.j0 : Nat → Int → Int → List Int → Int → Bool → List Int → Int → Bool → Bool → Int → Int → List Int → Int → Int → Int → Int → Int → Int → List Int → Int → Int → Int → Int → Option (Bool)
 | 0, _, _, _, _, _, _, _, _, _, _, _, _, _, _, _, _, _, _, _, _, _, _, _ => none
 | k + 1, x1, x2, x8, x9, x10, x12, x13, x14, x58, x255000, x255001, x255002, x255003, x255004, x255005, x255006, x280000, x280001, x280002, x280003, x280004, x280005, x280006 => if x58 = true then (some false) else ((laws_toTerrain.f k x255000 x255001 x255002 x255003 x255004 x255005 x255006).bind fun bt286 => ((laws_eqTerrain.f k x280000 x280001 x280002 x280003 x280004 x280005 x280006 bt286.1 bt286.2.1 bt286.2.2.1 bt286.2.2.2.1 bt286.2.2.2.2.1 bt286.2.2.2.2.2.1 bt286.2.2.2.2.2.2).bind fun t295 => (if t295 = true then ((laws_markTerrain.f k x280000 x280001 x280002 x280003 x280004 x280005 x280006 1).bind fun bt296 => (if bt296.1 < 0 then (laws_FnExactCheapestWay.j1 k x1 x2 x8 x9 x10 x12 true x255000 x255001 x255002 x255003 x255004 x255005 x255006) else ((laws_eqIntS.f k x12 x8).bind fun t298 => (if t298 = true then (if x13 = x9 then (laws_FnExactCheapestWay.j1 k x1 x2 x8 x9 x10 x12 (x14 != x10) x255000 x255001 x255002 x255003 x255004 x255005 x255006) else (laws_FnExactCheapestWay.j1 k x1 x2 x8 x9 x10 x12 true x255000 x255001 x255002 x255003 x255004 x255005 x255006)) else (laws_FnExactCheapestWay.j1 k x1 x2 x8 x9 x10 x12 true x255000 x255001 x255002 x255003 x255004 x255005 x255006))))) else (some false))))
def laws_FnExactCheapestWay.j1 : Nat → Int → Int → List Int → Int → Bool → List Int → Bool → Int → Int → List Int → Int → Int → Int → Int → Option (Bool)
 | 0, _, _, _, _, _, _, _, _, _, _, _, _, _, _ => none
 | k + 1, x1, x2, x8, x9, x10, x12, x84, x255000, x255001, x255002, x255003, x255004, x255005, x255006 => if x84 = true then (some false) else ((laws_markIntS.f k x12 1).bind fun bt299 => ((laws_heldIntS.f k bt299.2 1).bind fun t301 => (if t301 < 0 then (some false) else (if t301 = bt299.1 then ((laws_toTerrain.f k x255000 x255001 x255002 x255003 x255004 x255005 x255006).bind fun bt302 => ((impl_CheapestWay.f k bt302.1 bt302.2.1 bt302.2.2.1 bt302.2.2.2.1 bt302.2.2.2.2.1 bt302.2.2.2.2.2.1 bt302.2.2.2.2.2.2 x1 x2).bind fun bt311 => ((laws_eqIntS.f k bt311.1 x8).bind fun t316 => (if t316 = true then (if bt311.2.1 = x9 then (laws_FnExactCheapestWay.j2 k bt299.2 bt299.1 (bt311.2.2 != x10)) else (laws_FnExactCheapestWay.j2 k bt299.2 bt299.1 true)) else (laws_FnExactCheapestWay.j2 k bt299.2 bt299.1 true))))) else (some false)))))
def laws_FnExactCheapestWay.j2 : Nat → List Int → Int → Bool → Option (Bool)
 | 0, _, _, _ => none
 | k + 1, x12, x16, x118 => if x118 = true then (some false) else ((laws_heldIntS.f k x12 1).bind fun t317 => (if t317 < 0 then (some false) else (if t317 = x16 then (some true) else (some false))))
end
def laws_FnExactCheapestWay.f (k : Nat) (a0_0 : Int) (a0_1 : Int) (l0_2 : List Int) (a0_3 : Int) (a0_4 : Int) (a0_5 : Int) (a0_6 : Int) (a1 : Int) (a2 : Int) : Option (Bool) := (laws_szTerrain.f a0_0 a0_1 l0_2 a0_3 a0_4 a0_5 a0_6 1048576).bind fun t255 => (if t255 < 0 then (some true) else ((laws_toTerrain.f k a0_0 a0_1 l0_2 a0_3 a0_4 a0_5 a0_6).bind fun bt256 => ((spec_CheapestWay.f k bt256.1 bt256.2.1 bt256.2.2.1 bt256.2.2.2.1 bt256.2.2.2.2.1 bt256.2.2.2.2.2.1 bt256.2.2.2.2.2.2 a1 a2).bind fun bt265 => ((laws_toTerrain.f k a0_0 a0_1 l0_2 a0_3 a0_4 a0_5 a0_6).bind fun bt270 => ((impl_CheapestWay.f k bt270.1 bt270.2.1 bt270.2.2.1 bt270.2.2.2.1 bt270.2.2.2.2.1 bt270.2.2.2.2.2.1 bt270.2.2.2.2.2.2 a1 a2).bind fun bt280 => ((laws_eqIntS.f k bt280.1 bt265.1).bind fun t285 => (if t285 = true then (if bt280.2.1 = bt265.2.1 then (laws_FnExactCheapestWay.j0 k a1 a2 bt265.1 bt265.2.1 bt265.2.2 bt280.1 bt280.2.1 bt280.2.2 (bt280.2.2 != bt265.2.2) a0_0 a0_1 l0_2 a0_3 a0_4 a0_5 a0_6 bt270.1 bt270.2.1 bt270.2.2.1 bt270.2.2.2.1 bt270.2.2.2.2.1 bt270.2.2.2.2.2.1 bt270.2.2.2.2.2.2) else (laws_FnExactCheapestWay.j0 k a1 a2 bt265.1 bt265.2.1 bt265.2.2 bt280.1 bt280.2.1 bt280.2.2 true a0_0 a0_1 l0_2 a0_3 a0_4 a0_5 a0_6 bt270.1 bt270.2.1 bt270.2.2.1 bt270.2.2.2.1 bt270.2.2.2.2.1 bt270.2.2.2.2.2.1 bt270.2.2.2.2.2.2)) else (laws_FnExactCheapestWay.j0 k a1 a2 bt265.1 bt265.2.1 bt265.2.2 bt280.1 bt280.2.1 bt280.2.2 true a0_0 a0_1 l0_2 a0_3 a0_4 a0_5 a0_6 bt270.1 bt270.2.1 bt270.2.2.1 bt270.2.2.2.1 bt270.2.2.2.2.1 bt270.2.2.2.2.2.1 bt270.2.2.2.2.2.2))))))))
theorem laws_FnExactCheapestWay.mono_l : ∀ k, (∀ y0 y1 y2 y3 y4 y5 y6 y7 y8 y9 y10 y11 y12 y13 y14 y15 y16 y17 y18 y19 y20 y21 y22, LeO (laws_FnExactCheapestWay.j0 k y0 y1 y2 y3 y4 y5 y6 y7 y8 y9 y10 y11 y12 y13 y14 y15 y16 y17 y18 y19 y20 y21 y22) (laws_FnExactCheapestWay.j0 (k + 1) y0 y1 y2 y3 y4 y5 y6 y7 y8 y9 y10 y11 y12 y13 y14 y15 y16 y17 y18 y19 y20 y21 y22)) ∧ (∀ y0 y1 y2 y3 y4 y5 y6 y7 y8 y9 y10 y11 y12 y13, LeO (laws_FnExactCheapestWay.j1 k y0 y1 y2 y3 y4 y5 y6 y7 y8 y9 y10 y11 y12 y13) (laws_FnExactCheapestWay.j1 (k + 1) y0 y1 y2 y3 y4 y5 y6 y7 y8 y9 y10 y11 y12 y13)) ∧ (∀ y0 y1 y2, LeO (laws_FnExactCheapestWay.j2 k y0 y1 y2) (laws_FnExactCheapestWay.j2 (k + 1) y0 y1 y2))
 | 0 => ⟨fun _ _ _ _ _ _ _ _ _ _ _ _ _ _ _ _ _ _ _ _ _ _ _ r h => by simp [laws_FnExactCheapestWay.j0] at h, fun _ _ _ _ _ _ _ _ _ _ _ _ _ _ r h => by simp [laws_FnExactCheapestWay.j1] at h, fun _ _ _ r h => by simp [laws_FnExactCheapestWay.j2] at h⟩
 | k + 1 => by
  obtain ⟨ih0, ih1, ih2⟩ := laws_FnExactCheapestWay.mono_l k
  refine ⟨?_, ?_, ?_⟩
  ·intro y0 y1 y2 y3 y4 y5 y6 y7 y8 y9 y10 y11 y12 y13 y14 y15 y16 y17 y18 y19 y20 y21 y22
   unfold laws_FnExactCheapestWay.j0
   repeat' first
   | (with_reducible exact ih0 _ _ _ _ _ _ _ _ _ _ _ _ _ _ _ _ _ _ _ _ _ _ _)
   | (with_reducible exact ih1 _ _ _ _ _ _ _ _ _ _ _ _ _ _)
   | (with_reducible exact ih2 _ _ _)
   | (with_reducible exact impl_CheapestWay.mono _ _ _ _ _ _ _ _ _ _)
   | (with_reducible exact laws_eqIntS.mono _ _ _)
   | (with_reducible exact laws_eqTerrain.mono _ _ _ _ _ _ _ _ _ _ _ _ _ _ _)
   | (with_reducible exact laws_heldIntS.mono _ _ _)
   | (with_reducible exact laws_markIntS.mono _ _ _)
   | (with_reducible exact laws_markTerrain.mono _ _ _ _ _ _ _ _ _)
   | (with_reducible exact laws_toTerrain.mono _ _ _ _ _ _ _ _)
   | (with_reducible exact spec_CheapestWay.mono _ _ _ _ _ _ _ _ _ _)
   | (with_reducible exact LeO.refl _)
   | (with_reducible exact LeO.none _)
   | (with_reducible refine LeO.ite ?_ ?_)
   | (with_reducible refine LeO.bind ?_ (fun _ => ?_))
   | exact ih0 _ _ _ _ _ _ _ _ _ _ _ _ _ _ _ _ _ _ _ _ _ _ _
   | exact ih1 _ _ _ _ _ _ _ _ _ _ _ _ _ _
   | exact ih2 _ _ _
   | exact impl_CheapestWay.mono _ _ _ _ _ _ _ _ _ _
   | exact laws_eqIntS.mono _ _ _
   | exact laws_eqTerrain.mono _ _ _ _ _ _ _ _ _ _ _ _ _ _ _
   | exact laws_heldIntS.mono _ _ _
   | exact laws_markIntS.mono _ _ _
   | exact laws_markTerrain.mono _ _ _ _ _ _ _ _ _
   | exact laws_toTerrain.mono _ _ _ _ _ _ _ _
   | exact spec_CheapestWay.mono _ _ _ _ _ _ _ _ _ _
   | exact LeO.none _
   | refine LeO.ite ?_ ?_
   | refine LeO.bind ?_ (fun _ => ?_)
  ·intro y0 y1 y2 y3 y4 y5 y6 y7 y8 y9 y10 y11 y12 y13
   unfold laws_FnExactCheapestWay.j1
   repeat' first
   | (with_reducible exact ih0 _ _ _ _ _ _ _ _ _ _ _ _ _ _ _ _ _ _ _ _ _ _ _)
   | (with_reducible exact ih1 _ _ _ _ _ _ _ _ _ _ _ _ _ _)
   | (with_reducible exact ih2 _ _ _)
   | (with_reducible exact impl_CheapestWay.mono _ _ _ _ _ _ _ _ _ _)
   | (with_reducible exact laws_eqIntS.mono _ _ _)
   | (with_reducible exact laws_eqTerrain.mono _ _ _ _ _ _ _ _ _ _ _ _ _ _ _)
   | (with_reducible exact laws_heldIntS.mono _ _ _)
   | (with_reducible exact laws_markIntS.mono _ _ _)
   | (with_reducible exact laws_markTerrain.mono _ _ _ _ _ _ _ _ _)
   | (with_reducible exact laws_toTerrain.mono _ _ _ _ _ _ _ _)
   | (with_reducible exact spec_CheapestWay.mono _ _ _ _ _ _ _ _ _ _)
   | (with_reducible exact LeO.refl _)
   | (with_reducible exact LeO.none _)
   | (with_reducible refine LeO.ite ?_ ?_)
   | (with_reducible refine LeO.bind ?_ (fun _ => ?_))
   | exact ih0 _ _ _ _ _ _ _ _ _ _ _ _ _ _ _ _ _ _ _ _ _ _ _
   | exact ih1 _ _ _ _ _ _ _ _ _ _ _ _ _ _
   | exact ih2 _ _ _
   | exact impl_CheapestWay.mono _ _ _ _ _ _ _ _ _ _
   | exact laws_eqIntS.mono _ _ _
   | exact laws_eqTerrain.mono _ _ _ _ _ _ _ _ _ _ _ _ _ _ _
   | exact laws_heldIntS.mono _ _ _
   | exact laws_markIntS.mono _ _ _
   | exact laws_markTerrain.mono _ _ _ _ _ _ _ _ _
   | exact laws_toTerrain.mono _ _ _ _ _ _ _ _
   | exact spec_CheapestWay.mono _ _ _ _ _ _ _ _ _ _
   | exact LeO.none _
   | refine LeO.ite ?_ ?_
   | refine LeO.bind ?_ (fun _ => ?_)
  ·intro y0 y1 y2
   unfold laws_FnExactCheapestWay.j2
   repeat' first
   | (with_reducible exact ih0 _ _ _ _ _ _ _ _ _ _ _ _ _ _ _ _ _ _ _ _ _ _ _)
   | (with_reducible exact ih1 _ _ _ _ _ _ _ _ _ _ _ _ _ _)
   | (with_reducible exact ih2 _ _ _)
   | (with_reducible exact impl_CheapestWay.mono _ _ _ _ _ _ _ _ _ _)
   | (with_reducible exact laws_eqIntS.mono _ _ _)
   | (with_reducible exact laws_eqTerrain.mono _ _ _ _ _ _ _ _ _ _ _ _ _ _ _)
   | (with_reducible exact laws_heldIntS.mono _ _ _)
   | (with_reducible exact laws_markIntS.mono _ _ _)
   | (with_reducible exact laws_markTerrain.mono _ _ _ _ _ _ _ _ _)
   | (with_reducible exact laws_toTerrain.mono _ _ _ _ _ _ _ _)
   | (with_reducible exact spec_CheapestWay.mono _ _ _ _ _ _ _ _ _ _)
   | (with_reducible exact LeO.refl _)
   | (with_reducible exact LeO.none _)
   | (with_reducible refine LeO.ite ?_ ?_)
   | (with_reducible refine LeO.bind ?_ (fun _ => ?_))
   | exact ih0 _ _ _ _ _ _ _ _ _ _ _ _ _ _ _ _ _ _ _ _ _ _ _
   | exact ih1 _ _ _ _ _ _ _ _ _ _ _ _ _ _
   | exact ih2 _ _ _
   | exact impl_CheapestWay.mono _ _ _ _ _ _ _ _ _ _
   | exact laws_eqIntS.mono _ _ _
   | exact laws_eqTerrain.mono _ _ _ _ _ _ _ _ _ _ _ _ _ _ _
   | exact laws_heldIntS.mono _ _ _
   | exact laws_markIntS.mono _ _ _
   | exact laws_markTerrain.mono _ _ _ _ _ _ _ _ _
   | exact laws_toTerrain.mono _ _ _ _ _ _ _ _
   | exact spec_CheapestWay.mono _ _ _ _ _ _ _ _ _ _
   | exact LeO.none _
   | refine LeO.ite ?_ ?_
   | refine LeO.bind ?_ (fun _ => ?_)
theorem laws_FnExactCheapestWay.mono : ∀ a0 a1 a2 a3 a4 a5 a6 a7 a8 k, LeO (laws_FnExactCheapestWay.f k a0 a1 a2 a3 a4 a5 a6 a7 a8) (laws_FnExactCheapestWay.f (k + 1) a0 a1 a2 a3 a4 a5 a6 a7 a8) := by
 intro a0 a1 a2 a3 a4 a5 a6 a7 a8 k
 obtain ⟨ih0, ih1, ih2⟩ := laws_FnExactCheapestWay.mono_l k
 unfold laws_FnExactCheapestWay.f
 repeat' first
   | (with_reducible exact ih0 _ _ _ _ _ _ _ _ _ _ _ _ _ _ _ _ _ _ _ _ _ _ _)
   | (with_reducible exact ih1 _ _ _ _ _ _ _ _ _ _ _ _ _ _)
   | (with_reducible exact ih2 _ _ _)
   | (with_reducible exact impl_CheapestWay.mono _ _ _ _ _ _ _ _ _ _)
   | (with_reducible exact laws_eqIntS.mono _ _ _)
   | (with_reducible exact laws_eqTerrain.mono _ _ _ _ _ _ _ _ _ _ _ _ _ _ _)
   | (with_reducible exact laws_heldIntS.mono _ _ _)
   | (with_reducible exact laws_markIntS.mono _ _ _)
   | (with_reducible exact laws_markTerrain.mono _ _ _ _ _ _ _ _ _)
   | (with_reducible exact laws_toTerrain.mono _ _ _ _ _ _ _ _)
   | (with_reducible exact spec_CheapestWay.mono _ _ _ _ _ _ _ _ _ _)
   | (with_reducible exact LeO.refl _)
   | (with_reducible exact LeO.none _)
   | (with_reducible refine LeO.ite ?_ ?_)
   | (with_reducible refine LeO.bind ?_ (fun _ => ?_))
   | exact ih0 _ _ _ _ _ _ _ _ _ _ _ _ _ _ _ _ _ _ _ _ _ _ _
   | exact ih1 _ _ _ _ _ _ _ _ _ _ _ _ _ _
   | exact ih2 _ _ _
   | exact impl_CheapestWay.mono _ _ _ _ _ _ _ _ _ _
   | exact laws_eqIntS.mono _ _ _
   | exact laws_eqTerrain.mono _ _ _ _ _ _ _ _ _ _ _ _ _ _ _
   | exact laws_heldIntS.mono _ _ _
   | exact laws_markIntS.mono _ _ _
   | exact laws_markTerrain.mono _ _ _ _ _ _ _ _ _
   | exact laws_toTerrain.mono _ _ _ _ _ _ _ _
   | exact spec_CheapestWay.mono _ _ _ _ _ _ _ _ _ _
   | exact LeO.none _
   | refine LeO.ite ?_ ?_
   | refine LeO.bind ?_ (fun _ => ?_)
set_option maxHeartbeats 8000000 in
set_option maxRecDepth 100000 in
theorem laws_FnExactCheapestWay.calls (k : Nat) (a0_0 : Int) (a0_1 : Int) (A0_2 : Option Addr) (c0_2 : Nat) (l0_2 : List Int) (a0_3 : Int) (a0_4 : Int) (a0_5 : Int) (a0_6 : Int) (a1 : Int) (a2 : Int) (r : Bool) (w : World) (hr0_2 : Kd.C (Kd.int .i64) w A0_2 l0_2.length l0_2) (hc0_2 : l0_2.length ≤ c0_2) (h : laws_FnExactCheapestWay.f k a0_0 a0_1 l0_2 a0_3 a0_4 a0_5 a0_6 a1 a2 = some r) (hG : Laid w) :
  Calls Tryd.prog 6 #[.agg #[.int .i64 a0_0, .int .i64 a0_1, .slice A0_2 l0_2.length c0_2, .int .i64 a0_3, .int .i64 a0_4, .int .i64 a0_5, .int .i64 a0_6], .int .i64 a1, .int .i64 a2] w fun e w' => e = .returned (.bool r) ∧ Below w.heap.size w w' := by
 have hu24 := Tryd.underlying24
 have hu28 := Tryd.underlying28
 have HR0_2 := Aside0.mk hr0_2
 have HC0_2 := Aside0.mk hc0_2
 clear hr0_2 hc0_2
 have HB := am (Below.refl w.heap.size w)
 have HG := Aside0.mk hG
 clear hG
 have H : ((laws_szTerrain.f a0_0 a0_1 l0_2 a0_3 a0_4 a0_5 a0_6 1048576).bind fun t255 => (if t255 < 0 then (some true) else ((laws_toTerrain.f k a0_0 a0_1 l0_2 a0_3 a0_4 a0_5 a0_6).bind fun bt256 => ((spec_CheapestWay.f k bt256.1 bt256.2.1 bt256.2.2.1 bt256.2.2.2.1 bt256.2.2.2.2.1 bt256.2.2.2.2.2.1 bt256.2.2.2.2.2.2 a1 a2).bind fun bt265 => ((laws_toTerrain.f k a0_0 a0_1 l0_2 a0_3 a0_4 a0_5 a0_6).bind fun bt270 => ((impl_CheapestWay.f k bt270.1 bt270.2.1 bt270.2.2.1 bt270.2.2.2.1 bt270.2.2.2.2.1 bt270.2.2.2.2.2.1 bt270.2.2.2.2.2.2 a1 a2).bind fun bt280 => ((laws_eqIntS.f k bt280.1 bt265.1).bind fun t285 => (if t285 = true then (if bt280.2.1 = bt265.2.1 then (laws_FnExactCheapestWay.j0 k a1 a2 bt265.1 bt265.2.1 bt265.2.2 bt280.1 bt280.2.1 bt280.2.2 (bt280.2.2 != bt265.2.2) a0_0 a0_1 l0_2 a0_3 a0_4 a0_5 a0_6 bt270.1 bt270.2.1 bt270.2.2.1 bt270.2.2.2.1 bt270.2.2.2.2.1 bt270.2.2.2.2.2.1 bt270.2.2.2.2.2.2) else (laws_FnExactCheapestWay.j0 k a1 a2 bt265.1 bt265.2.1 bt265.2.2 bt280.1 bt280.2.1 bt280.2.2 true a0_0 a0_1 l0_2 a0_3 a0_4 a0_5 a0_6 bt270.1 bt270.2.1 bt270.2.2.1 bt270.2.2.2.1 bt270.2.2.2.2.1 bt270.2.2.2.2.2.1 bt270.2.2.2.2.2.2)) else (laws_FnExactCheapestWay.j0 k a1 a2 bt265.1 bt265.2.1 bt265.2.2 bt280.1 bt280.2.1 bt280.2.2 true a0_0 a0_1 l0_2 a0_3 a0_4 a0_5 a0_6 bt270.1 bt270.2.1 bt270.2.2.1 bt270.2.2.2.1 bt270.2.2.2.2.1 bt270.2.2.2.2.2.1 bt270.2.2.2.2.2.2))))))))) = some r := h
 clear h
 replace H := Option.bind_eq_some_iff.mp H
 obtain ⟨t255, A40, H⟩ := H
 replace H : (if t255 < 0 then (some true) else ((laws_toTerrain.f k a0_0 a0_1 l0_2 a0_3 a0_4 a0_5 a0_6).bind fun bt256 => ((spec_CheapestWay.f k bt256.1 bt256.2.1 bt256.2.2.1 bt256.2.2.2.1 bt256.2.2.2.2.1 bt256.2.2.2.2.2.1 bt256.2.2.2.2.2.2 a1 a2).bind fun bt265 => ((laws_toTerrain.f k a0_0 a0_1 l0_2 a0_3 a0_4 a0_5 a0_6).bind fun bt270 => ((impl_CheapestWay.f k bt270.1 bt270.2.1 bt270.2.2.1 bt270.2.2.2.1 bt270.2.2.2.2.1 bt270.2.2.2.2.2.1 bt270.2.2.2.2.2.2 a1 a2).bind fun bt280 => ((laws_eqIntS.f k bt280.1 bt265.1).bind fun t285 => (if t285 = true then (if bt280.2.1 = bt265.2.1 then (laws_FnExactCheapestWay.j0 k a1 a2 bt265.1 bt265.2.1 bt265.2.2 bt280.1 bt280.2.1 bt280.2.2 (bt280.2.2 != bt265.2.2) a0_0 a0_1 l0_2 a0_3 a0_4 a0_5 a0_6 bt270.1 bt270.2.1 bt270.2.2.1 bt270.2.2.2.1 bt270.2.2.2.2.1 bt270.2.2.2.2.2.1 bt270.2.2.2.2.2.2) else (laws_FnExactCheapestWay.j0 k a1 a2 bt265.1 bt265.2.1 bt265.2.2 bt280.1 bt280.2.1 bt280.2.2 true a0_0 a0_1 l0_2 a0_3 a0_4 a0_5 a0_6 bt270.1 bt270.2.1 bt270.2.2.1 bt270.2.2.2.1 bt270.2.2.2.2.1 bt270.2.2.2.2.2.1 bt270.2.2.2.2.2.2)) else (laws_FnExactCheapestWay.j0 k a1 a2 bt265.1 bt265.2.1 bt265.2.2 bt280.1 bt280.2.1 bt280.2.2 true a0_0 a0_1 l0_2 a0_3 a0_4 a0_5 a0_6 bt270.1 bt270.2.1 bt270.2.2.1 bt270.2.2.2.1 bt270.2.2.2.2.1 bt270.2.2.2.2.2.1 bt270.2.2.2.2.2.2)))))))) = some r := H
 have A4 := Aside0.mk A40
 clear A40
 by_cases c5 : t255 < 0
 ·rw [if_pos c5] at H
  have c5b0 : decide (t255 < 0) = true := decide_eq_true c5
  clear c5
  obtain rfl := Option.some.inj H
  go_enter Tryd.func6, Tryd.ntmps6
  go_wp2_with (first | ((with_reducible refine gate_dst (N := 3) rfl ?_); refine box_event ?hg (N := 3) ?hd (cs := #[.int .i64 a0_0, .int .i64 a0_1, .slice A0_2 l0_2.length c0_2, .int .i64 a0_3, .int .i64 a0_4, .int .i64 a0_5, .int .i64 a0_6]) (t := 24) ?hr ?_; (case hd => rfl); (case hg => rfl); (case hr => exact ze'); intro gb254 hg w6 hbox hb; have n0_ := am (below_step za' hb); have n1_ := am (hbox); have n2_ := am ((by rw [hg]; exact (below_size za') : w.heap.size ≤ gb254)); have n3_ := am ((by rw [hg]; exact (below_size za') : w.heap.size ≤ gb254)); clear HB; have HB := n0_; have BK254 := n1_; have GW254 := n2_; have GE254 := n3_; clear n0_ n1_ n2_ n3_; clear hb hbox hg; have hcz7_0 : w6.cell? ⟨gb254, 0, none⟩ = some (.int .i64 a0_0) := (blk_cell BK254.out 0).trans rfl; have hcz7_1 : w6.cell? ⟨gb254, 1, none⟩ = some (.int .i64 a0_1) := (blk_cell BK254.out 1).trans rfl; have hcz7_2 : w6.cell? ⟨gb254, 2, none⟩ = some (.slice A0_2 l0_2.length c0_2) := (blk_cell BK254.out 2).trans rfl; have hcz7_3 : w6.cell? ⟨gb254, 3, none⟩ = some (.int .i64 a0_3) := (blk_cell BK254.out 3).trans rfl; have hcz7_4 : w6.cell? ⟨gb254, 4, none⟩ = some (.int .i64 a0_4) := (blk_cell BK254.out 4).trans rfl; have hcz7_5 : w6.cell? ⟨gb254, 5, none⟩ = some (.int .i64 a0_5) := (blk_cell BK254.out 5).trans rfl; have hcz7_6 : w6.cell? ⟨gb254, 6, none⟩ = some (.int .i64 a0_6) := (blk_cell BK254.out 6).trans rfl; have hfz7_0 := blk_frozen BK254.out 0; have hfz7_1 := blk_frozen BK254.out 1; have hfz7_2 := blk_frozen BK254.out 2; have hfz7_3 := blk_frozen BK254.out 3; have hfz7_4 := blk_frozen BK254.out 4; have hfz7_5 := blk_frozen BK254.out 5; have hfz7_6 := blk_frozen BK254.out 6) | ((with_reducible refine gate_callee (f := 10) rfl ?_); refine goesL_ (some 23) rfl rfl Tryd.func10 (by kernel_rfl) rfl #[.agg #[.int .i64 a0_0, .int .i64 a0_1, .slice A0_2 l0_2.length c0_2, .int .i64 a0_3, .int .i64 a0_4, .int .i64 a0_5, .int .i64 a0_6], .int .i64 1048576] rfl zc' ?_; (with_reducible refine (laws_szTerrain.calls a0_0 a0_1 _ _ l0_2 a0_3 a0_4 a0_5 a0_6 1048576 t255 _ ?side1 ?side2 A4.out).mono ?_); (case side1 => exact zb'); (case side2 => exact zn1'); rintro e w8 ⟨rfl, hb⟩; refine ⟨_, rfl, ?_⟩; have n0_ := am (blk_below (g := gb254) (o := .cells #[.int .i64 a0_0, .int .i64 a0_1, .slice A0_2 l0_2.length c0_2, .int .i64 a0_3, .int .i64 a0_4, .int .i64 a0_5, .int .i64 a0_6] 24 (0, 0)) zm' hb); have n1_ := am (below_step zs' hb); clear BK254; clear HB; have BK254 := n0_; have HB := n1_; clear n0_ n1_; (try clear hb); (try clear hb2); (try clear hk); (try clear hi)))
  go_ret
  exact ⟨by first | rfl | (simp [errW_none, errW_some] <;> rfl) | (simp [*, errW_none, errW_some] <;> rfl), by repeat (first | (with_reducible first | exact HB.out | apply ba | apply bn | apply below_drew1 | refine below_set ?_ GE254.out) | exact HB.out)⟩
 ·rw [if_neg c5] at H
  have c5b0 : decide (t255 < 0) = false := decide_eq_false c5
  clear c5
  replace H := Option.bind_eq_some_iff.mp H
  obtain ⟨⟨t256, t257, t258, t261, t262, t263, t264⟩, A90, H⟩ := H
  replace H : ((spec_CheapestWay.f k t256 t257 t258 t261 t262 t263 t264 a1 a2).bind fun bt265 => ((laws_toTerrain.f k a0_0 a0_1 l0_2 a0_3 a0_4 a0_5 a0_6).bind fun bt270 => ((impl_CheapestWay.f k bt270.1 bt270.2.1 bt270.2.2.1 bt270.2.2.2.1 bt270.2.2.2.2.1 bt270.2.2.2.2.2.1 bt270.2.2.2.2.2.2 a1 a2).bind fun bt280 => ((laws_eqIntS.f k bt280.1 bt265.1).bind fun t285 => (if t285 = true then (if bt280.2.1 = bt265.2.1 then (laws_FnExactCheapestWay.j0 k a1 a2 bt265.1 bt265.2.1 bt265.2.2 bt280.1 bt280.2.1 bt280.2.2 (bt280.2.2 != bt265.2.2) a0_0 a0_1 l0_2 a0_3 a0_4 a0_5 a0_6 bt270.1 bt270.2.1 bt270.2.2.1 bt270.2.2.2.1 bt270.2.2.2.2.1 bt270.2.2.2.2.2.1 bt270.2.2.2.2.2.2) else (laws_FnExactCheapestWay.j0 k a1 a2 bt265.1 bt265.2.1 bt265.2.2 bt280.1 bt280.2.1 bt280.2.2 true a0_0 a0_1 l0_2 a0_3 a0_4 a0_5 a0_6 bt270.1 bt270.2.1 bt270.2.2.1 bt270.2.2.2.1 bt270.2.2.2.2.1 bt270.2.2.2.2.2.1 bt270.2.2.2.2.2.2)) else (laws_FnExactCheapestWay.j0 k a1 a2 bt265.1 bt265.2.1 bt265.2.2 bt280.1 bt280.2.1 bt280.2.2 true a0_0 a0_1 l0_2 a0_3 a0_4 a0_5 a0_6 bt270.1 bt270.2.1 bt270.2.2.1 bt270.2.2.2.1 bt270.2.2.2.2.1 bt270.2.2.2.2.2.1 bt270.2.2.2.2.2.2)))))) = some r := H
  have A9 := Aside0.mk A90
  clear A90
  replace H := Option.bind_eq_some_iff.mp H
  obtain ⟨⟨t265, t268, t269⟩, A100, H⟩ := H
  replace H : ((laws_toTerrain.f k a0_0 a0_1 l0_2 a0_3 a0_4 a0_5 a0_6).bind fun bt270 => ((impl_CheapestWay.f k bt270.1 bt270.2.1 bt270.2.2.1 bt270.2.2.2.1 bt270.2.2.2.2.1 bt270.2.2.2.2.2.1 bt270.2.2.2.2.2.2 a1 a2).bind fun bt280 => ((laws_eqIntS.f k bt280.1 t265).bind fun t285 => (if t285 = true then (if bt280.2.1 = t268 then (laws_FnExactCheapestWay.j0 k a1 a2 t265 t268 t269 bt280.1 bt280.2.1 bt280.2.2 (bt280.2.2 != t269) a0_0 a0_1 l0_2 a0_3 a0_4 a0_5 a0_6 bt270.1 bt270.2.1 bt270.2.2.1 bt270.2.2.2.1 bt270.2.2.2.2.1 bt270.2.2.2.2.2.1 bt270.2.2.2.2.2.2) else (laws_FnExactCheapestWay.j0 k a1 a2 t265 t268 t269 bt280.1 bt280.2.1 bt280.2.2 true a0_0 a0_1 l0_2 a0_3 a0_4 a0_5 a0_6 bt270.1 bt270.2.1 bt270.2.2.1 bt270.2.2.2.1 bt270.2.2.2.2.1 bt270.2.2.2.2.2.1 bt270.2.2.2.2.2.2)) else (laws_FnExactCheapestWay.j0 k a1 a2 t265 t268 t269 bt280.1 bt280.2.1 bt280.2.2 true a0_0 a0_1 l0_2 a0_3 a0_4 a0_5 a0_6 bt270.1 bt270.2.1 bt270.2.2.1 bt270.2.2.2.1 bt270.2.2.2.2.1 bt270.2.2.2.2.2.1 bt270.2.2.2.2.2.2))))) = some r := H
  have A10 := Aside0.mk A100
  clear A100
  replace H := Option.bind_eq_some_iff.mp H
  obtain ⟨⟨t270, t271, t272, t275, t276, t277, t278⟩, A110, H⟩ := H
  replace H : ((impl_CheapestWay.f k t270 t271 t272 t275 t276 t277 t278 a1 a2).bind fun bt280 => ((laws_eqIntS.f k bt280.1 t265).bind fun t285 => (if t285 = true then (if bt280.2.1 = t268 then (laws_FnExactCheapestWay.j0 k a1 a2 t265 t268 t269 bt280.1 bt280.2.1 bt280.2.2 (bt280.2.2 != t269) a0_0 a0_1 l0_2 a0_3 a0_4 a0_5 a0_6 t270 t271 t272 t275 t276 t277 t278) else (laws_FnExactCheapestWay.j0 k a1 a2 t265 t268 t269 bt280.1 bt280.2.1 bt280.2.2 true a0_0 a0_1 l0_2 a0_3 a0_4 a0_5 a0_6 t270 t271 t272 t275 t276 t277 t278)) else (laws_FnExactCheapestWay.j0 k a1 a2 t265 t268 t269 bt280.1 bt280.2.1 bt280.2.2 true a0_0 a0_1 l0_2 a0_3 a0_4 a0_5 a0_6 t270 t271 t272 t275 t276 t277 t278)))) = some r := H
  have A11 := Aside0.mk A110
  clear A110
  replace H := Option.bind_eq_some_iff.mp H
  obtain ⟨⟨t280, t283, t284⟩, A120, H⟩ := H
  replace H : ((laws_eqIntS.f k t280 t265).bind fun t285 => (if t285 = true then (if t283 = t268 then (laws_FnExactCheapestWay.j0 k a1 a2 t265 t268 t269 t280 t283 t284 (t284 != t269) a0_0 a0_1 l0_2 a0_3 a0_4 a0_5 a0_6 t270 t271 t272 t275 t276 t277 t278) else (laws_FnExactCheapestWay.j0 k a1 a2 t265 t268 t269 t280 t283 t284 true a0_0 a0_1 l0_2 a0_3 a0_4 a0_5 a0_6 t270 t271 t272 t275 t276 t277 t278)) else (laws_FnExactCheapestWay.j0 k a1 a2 t265 t268 t269 t280 t283 t284 true a0_0 a0_1 l0_2 a0_3 a0_4 a0_5 a0_6 t270 t271 t272 t275 t276 t277 t278))) = some r := H
  have A12 := Aside0.mk A120
  clear A120
  have HC13 := Aside0.mk H
  clear H
  go_enter Tryd.func6, Tryd.ntmps6
  go_upto_region 8 with (first | ((with_reducible refine gate_dst (N := 3) rfl ?_); refine box_event ?hg (N := 3) ?hd (cs := #[.int .i64 a0_0, .int .i64 a0_1, .slice A0_2 l0_2.length c0_2, .int .i64 a0_3, .int .i64 a0_4, .int .i64 a0_5, .int .i64 a0_6]) (t := 24) ?hr ?_; (case hd => rfl); (case hg => rfl); (case hr => exact ze'); intro gb254 hg w14 hbox hb; have n0_ := am (below_step za' hb); have n1_ := am (hbox); have n2_ := am ((by rw [hg]; exact (below_size za') : w.heap.size ≤ gb254)); have n3_ := am ((by rw [hg]; exact (below_size za') : w.heap.size ≤ gb254)); clear HB; have HB := n0_; have BK254 := n1_; have GW254 := n2_; have GE254 := n3_; clear n0_ n1_ n2_ n3_; clear hb hbox hg; have hcz15_0 : w14.cell? ⟨gb254, 0, none⟩ = some (.int .i64 a0_0) := (blk_cell BK254.out 0).trans rfl; have hcz15_1 : w14.cell? ⟨gb254, 1, none⟩ = some (.int .i64 a0_1) := (blk_cell BK254.out 1).trans rfl; have hcz15_2 : w14.cell? ⟨gb254, 2, none⟩ = some (.slice A0_2 l0_2.length c0_2) := (blk_cell BK254.out 2).trans rfl; have hcz15_3 : w14.cell? ⟨gb254, 3, none⟩ = some (.int .i64 a0_3) := (blk_cell BK254.out 3).trans rfl; have hcz15_4 : w14.cell? ⟨gb254, 4, none⟩ = some (.int .i64 a0_4) := (blk_cell BK254.out 4).trans rfl; have hcz15_5 : w14.cell? ⟨gb254, 5, none⟩ = some (.int .i64 a0_5) := (blk_cell BK254.out 5).trans rfl; have hcz15_6 : w14.cell? ⟨gb254, 6, none⟩ = some (.int .i64 a0_6) := (blk_cell BK254.out 6).trans rfl; have hfz15_0 := blk_frozen BK254.out 0; have hfz15_1 := blk_frozen BK254.out 1; have hfz15_2 := blk_frozen BK254.out 2; have hfz15_3 := blk_frozen BK254.out 3; have hfz15_4 := blk_frozen BK254.out 4; have hfz15_5 := blk_frozen BK254.out 5; have hfz15_6 := blk_frozen BK254.out 6) | ((with_reducible refine gate_callee (f := 10) rfl ?_); refine goesL_ (some 23) rfl rfl Tryd.func10 (by kernel_rfl) rfl #[.agg #[.int .i64 a0_0, .int .i64 a0_1, .slice A0_2 l0_2.length c0_2, .int .i64 a0_3, .int .i64 a0_4, .int .i64 a0_5, .int .i64 a0_6], .int .i64 1048576] rfl zc' ?_; (with_reducible refine (laws_szTerrain.calls a0_0 a0_1 _ _ l0_2 a0_3 a0_4 a0_5 a0_6 1048576 t255 _ ?side1 ?side2 A4.out).mono ?_); (case side1 => exact zb'); (case side2 => exact zn1'); rintro e w16 ⟨rfl, hb⟩; refine ⟨_, rfl, ?_⟩; have n0_ := am (blk_below (g := gb254) (o := .cells #[.int .i64 a0_0, .int .i64 a0_1, .slice A0_2 l0_2.length c0_2, .int .i64 a0_3, .int .i64 a0_4, .int .i64 a0_5, .int .i64 a0_6] 24 (0, 0)) zm' hb); have n1_ := am (below_step zs' hb); clear BK254; clear HB; have BK254 := n0_; have HB := n1_; clear n0_ n1_; (try clear hb); (try clear hb2); (try clear hk); (try clear hi); have hcz17_0 : w16.cell? ⟨gb254, 0, none⟩ = some (.int .i64 a0_0) := (blk_cell BK254.out 0).trans rfl; have hcz17_1 : w16.cell? ⟨gb254, 1, none⟩ = some (.int .i64 a0_1) := (blk_cell BK254.out 1).trans rfl; have hcz17_2 : w16.cell? ⟨gb254, 2, none⟩ = some (.slice A0_2 l0_2.length c0_2) := (blk_cell BK254.out 2).trans rfl; have hcz17_3 : w16.cell? ⟨gb254, 3, none⟩ = some (.int .i64 a0_3) := (blk_cell BK254.out 3).trans rfl; have hcz17_4 : w16.cell? ⟨gb254, 4, none⟩ = some (.int .i64 a0_4) := (blk_cell BK254.out 4).trans rfl; have hcz17_5 : w16.cell? ⟨gb254, 5, none⟩ = some (.int .i64 a0_5) := (blk_cell BK254.out 5).trans rfl; have hcz17_6 : w16.cell? ⟨gb254, 6, none⟩ = some (.int .i64 a0_6) := (blk_cell BK254.out 6).trans rfl; have hfz17_0 := blk_frozen BK254.out 0; have hfz17_1 := blk_frozen BK254.out 1; have hfz17_2 := blk_frozen BK254.out 2; have hfz17_3 := blk_frozen BK254.out 3; have hfz17_4 := blk_frozen BK254.out 4; have hfz17_5 := blk_frozen BK254.out 5; have hfz17_6 := blk_frozen BK254.out 6) | ((with_reducible refine gate_callee (f := 12) rfl ?_); refine goesL_ (some 28) rfl rfl Tryd.func12 (by kernel_rfl) rfl #[.agg #[.int .i64 a0_0, .int .i64 a0_1, .slice A0_2 l0_2.length c0_2, .int .i64 a0_3, .int .i64 a0_4, .int .i64 a0_5, .int .i64 a0_6]] rfl zc' ?_; (with_reducible refine (laws_toTerrain.calls k a0_0 a0_1 _ _ l0_2 a0_3 a0_4 a0_5 a0_6 t256 t257 t258 t261 t262 t263 t264 _ ?side1 ?side2 A9.out).mono ?_); (case side1 => exact zb'); (case side2 => exact zn1'); rintro e w18 ⟨v259, rfl, ho0, hb⟩; refine ⟨_, rfl, ?_⟩; have n0_ := am (Kd.R_lower ho0 (below_size zs')); have n1_ := am (blk_below (g := gb254) (o := .cells #[.int .i64 a0_0, .int .i64 a0_1, .slice A0_2 l0_2.length c0_2, .int .i64 a0_3, .int .i64 a0_4, .int .i64 a0_5, .int .i64 a0_6] 24 (0, 0)) zm' hb); have n2_ := am (below_step zs' hb); clear BK254; clear HB; have HO260 := n0_; have BK254 := n1_; have HB := n2_; clear n0_ n1_ n2_; (try clear hb); (try clear hb2); (try clear hk); (try clear hi); (try clear ho0); obtain ⟨Ao19, co19, eo19⟩ := Kd.R_slice HO260.out; subst eo19) | ((with_reducible refine gate_callee (f := 23) rfl ?_); refine goesL_ (some 31) rfl rfl Tryd.func23 (by kernel_rfl) rfl #[.agg #[.int .i64 t256, .int .i64 t257, .slice Ao19 t258.length co19, .int .i64 t261, .int .i64 t262, .int .i64 t263, .int .i64 t264], .int .i64 a1, .int .i64 a2] rfl zc' ?_; (with_reducible refine (spec_CheapestWay.calls k t256 t257 _ _ t258 t261 t262 t263 t264 a1 a2 t265 t268 t269 _ ?side1 ?side2 A10.out).mono ?_); (case side1 => repeat (first | exact (Kd.R_reads' HO260.out).2.2 | (with_reducible refine Kd.C_alloc ?_ _) | (with_reducible refine Kd.C_drewN ?_ _) | (with_reducible refine Kd.C_drew ?_))); (case side2 => exact (Kd.R_reads' HO260.out).2.1); rintro e w20 ⟨v266, rfl, ho0, hb⟩; refine ⟨_, rfl, ?_⟩; have n0_ := am (Kd.R_elder' zj2' (Kd.R_base ho0) hb); have n1_ := am (Kd.R_lower (Kd.R_new' ho0 (Kd.R_lt zj2')) (below_size zs')); have n2_ := am (blk_below (g := gb254) (o := .cells #[.int .i64 a0_0, .int .i64 a0_1, .slice A0_2 l0_2.length c0_2, .int .i64 a0_3, .int .i64 a0_4, .int .i64 a0_5, .int .i64 a0_6] 24 (0, 0)) zm' hb); have n3_ := am (below_step zs' hb); clear HO260; clear BK254; clear HB; have HO260 := n0_; have HO267 := n1_; have BK254 := n2_; have HB := n3_; clear n0_ n1_ n2_ n3_; (try clear hb); (try clear hb2); (try clear hk); (try clear hi); (try clear ho0); have hcz21_0 : w20.cell? ⟨gb254, 0, none⟩ = some (.int .i64 a0_0) := (blk_cell BK254.out 0).trans rfl; have hcz21_1 : w20.cell? ⟨gb254, 1, none⟩ = some (.int .i64 a0_1) := (blk_cell BK254.out 1).trans rfl; have hcz21_2 : w20.cell? ⟨gb254, 2, none⟩ = some (.slice A0_2 l0_2.length c0_2) := (blk_cell BK254.out 2).trans rfl; have hcz21_3 : w20.cell? ⟨gb254, 3, none⟩ = some (.int .i64 a0_3) := (blk_cell BK254.out 3).trans rfl; have hcz21_4 : w20.cell? ⟨gb254, 4, none⟩ = some (.int .i64 a0_4) := (blk_cell BK254.out 4).trans rfl; have hcz21_5 : w20.cell? ⟨gb254, 5, none⟩ = some (.int .i64 a0_5) := (blk_cell BK254.out 5).trans rfl; have hcz21_6 : w20.cell? ⟨gb254, 6, none⟩ = some (.int .i64 a0_6) := (blk_cell BK254.out 6).trans rfl; have hfz21_0 := blk_frozen BK254.out 0; have hfz21_1 := blk_frozen BK254.out 1; have hfz21_2 := blk_frozen BK254.out 2; have hfz21_3 := blk_frozen BK254.out 3; have hfz21_4 := blk_frozen BK254.out 4; have hfz21_5 := blk_frozen BK254.out 5; have hfz21_6 := blk_frozen BK254.out 6) | ((with_reducible refine gate_callee (f := 12) rfl ?_); refine goesL_ (some 36) rfl rfl Tryd.func12 (by kernel_rfl) rfl #[.agg #[.int .i64 a0_0, .int .i64 a0_1, .slice A0_2 l0_2.length c0_2, .int .i64 a0_3, .int .i64 a0_4, .int .i64 a0_5, .int .i64 a0_6]] rfl zc' ?_; (with_reducible refine (laws_toTerrain.calls k a0_0 a0_1 _ _ l0_2 a0_3 a0_4 a0_5 a0_6 t270 t271 t272 t275 t276 t277 t278 _ ?side1 ?side2 A11.out).mono ?_); (case side1 => exact zb'); (case side2 => exact zn1'); rintro e w22 ⟨v273, rfl, ho0, hb⟩; refine ⟨_, rfl, ?_⟩; have n0_ := am (Kd.R_elder' zj2' (Kd.R_base ho0) hb); have n1_ := am (Kd.R_elder' zq3' (Kd.R_base ho0) hb); have n2_ := am (Kd.R_lower (Kd.R_new' (Kd.R_new' ho0 (Kd.R_lt zj2')) (Kd.R_lt zq3')) (below_size zs')); have n3_ := am (blk_below (g := gb254) (o := .cells #[.int .i64 a0_0, .int .i64 a0_1, .slice A0_2 l0_2.length c0_2, .int .i64 a0_3, .int .i64 a0_4, .int .i64 a0_5, .int .i64 a0_6] 24 (0, 0)) zm' hb); have n4_ := am (below_step zs' hb); clear HO260; clear HO267; clear BK254; clear HB; have HO260 := n0_; have HO267 := n1_; have HO274 := n2_; have BK254 := n3_; have HB := n4_; clear n0_ n1_ n2_ n3_ n4_; (try clear hb); (try clear hb2); (try clear hk); (try clear hi); (try clear ho0)) | ((with_reducible refine gate_dst (N := 11) rfl ?_); refine box_event ?hg (N := 11) ?hd (cs := #[.int .i64 0, .int .i64 0, .slice none 0 0, .int .i64 0, .int .i64 0, .int .i64 0, .int .i64 0]) (t := 28) ?hr ?_; (case hd => rfl); (case hg => rfl); (case hr => exact ze'); intro gb279 hg w23 hbox hb; have n0_ := am (Kd.R_below zj2' hb); have n1_ := am (Kd.R_below zq3' hb); have n2_ := am (Kd.R_below (by (with_reducible repeat (first | apply Kd.R_alloc | apply Kd.R_drewN | apply Kd.R_drew)); exact HO274.out) hb); have n3_ := am (blk_below (g := gb254) (o := .cells #[.int .i64 a0_0, .int .i64 a0_1, .slice A0_2 l0_2.length c0_2, .int .i64 a0_3, .int .i64 a0_4, .int .i64 a0_5, .int .i64 a0_6] 24 (0, 0)) zm' hb); have n4_ := am (below_step zs' hb); have n5_ := am (hbox); have n6_ := am ((by rw [hg]; exact (below_size zs') : w.heap.size ≤ gb279)); have n7_ := am ((by rw [hg]; exact (below_size zs') : w.heap.size ≤ gb279)); have n8_ := am ((by rw [hg]; exact Nat.ne_of_lt (blk_lt (g := gb254) (o := .cells #[.int .i64 a0_0, .int .i64 a0_1, .slice A0_2 l0_2.length c0_2, .int .i64 a0_3, .int .i64 a0_4, .int .i64 a0_5, .int .i64 a0_6] 24 (0, 0)) zm') : gb254 ≠ gb279)); have n9_ := am ((by rw [hg]; exact Nat.ne_of_gt (blk_lt (g := gb254) (o := .cells #[.int .i64 a0_0, .int .i64 a0_1, .slice A0_2 l0_2.length c0_2, .int .i64 a0_3, .int .i64 a0_4, .int .i64 a0_5, .int .i64 a0_6] 24 (0, 0)) zm') : gb279 ≠ gb254)); clear HO260; clear HO267; clear HO274; clear BK254; clear HB; have HO260 := n0_; have HO267 := n1_; have HO274 := n2_; have BK254 := n3_; have HB := n4_; have BK279 := n5_; have GW279 := n6_; have GE279 := n7_; have NB254_279 := n8_; have NB279_254 := n9_; clear n0_ n1_ n2_ n3_ n4_ n5_ n6_ n7_ n8_ n9_; clear hb hbox hg; have hnb24 := NB279_254.out; have hnc24 := NB254_279.out; have hcz25_0 : w23.cell? ⟨gb279, 0, none⟩ = some (.int .i64 0) := (blk_cell BK279.out 0).trans rfl; have hcz25_1 : w23.cell? ⟨gb279, 1, none⟩ = some (.int .i64 0) := (blk_cell BK279.out 1).trans rfl; have hcz25_2 : w23.cell? ⟨gb279, 2, none⟩ = some (.slice none 0 0) := (blk_cell BK279.out 2).trans rfl; have hcz25_3 : w23.cell? ⟨gb279, 3, none⟩ = some (.int .i64 0) := (blk_cell BK279.out 3).trans rfl; have hcz25_4 : w23.cell? ⟨gb279, 4, none⟩ = some (.int .i64 0) := (blk_cell BK279.out 4).trans rfl; have hcz25_5 : w23.cell? ⟨gb279, 5, none⟩ = some (.int .i64 0) := (blk_cell BK279.out 5).trans rfl; have hcz25_6 : w23.cell? ⟨gb279, 6, none⟩ = some (.int .i64 0) := (blk_cell BK279.out 6).trans rfl; have hfz25_0 := blk_frozen BK279.out 0; have hfz25_1 := blk_frozen BK279.out 1; have hfz25_2 := blk_frozen BK279.out 2; have hfz25_3 := blk_frozen BK279.out 3; have hfz25_4 := blk_frozen BK279.out 4; have hfz25_5 := blk_frozen BK279.out 5; have hfz25_6 := blk_frozen BK279.out 6; obtain ⟨Ao26, co26, eo26⟩ := Kd.R_slice HO274.out; subst eo26) | ((with_reducible refine gate_callee (f := 24) rfl ?_); refine goesL_ (some 41) rfl rfl Tryd.func24 (by kernel_rfl) rfl #[.agg #[.int .i64 t270, .int .i64 t271, .slice Ao26 t272.length co26, .int .i64 t275, .int .i64 t276, .int .i64 t277, .int .i64 t278], .int .i64 a1, .int .i64 a2] rfl zc' ?_; (with_reducible refine (impl_CheapestWay.calls k t270 t271 _ _ t272 t275 t276 t277 t278 a1 a2 t280 t283 t284 _ ?side1 ?side2 A12.out ?sideG).mono ?_); (case sideG => exact laid_below HG.out zf'); (case side1 => refine (Kd.R_reads' (e := 3) (base := w.heap.size) (ok := fun k_ => ((True ∧ some k_ ≠ (.slice Ao19 t258.length co19 : Value).ownBlock) ∧ some k_ ≠ (v266 : Value).ownBlock)) (n := t272.length) (c := co26) ?_).2.2; exact zr'); (case side2 => exact (Kd.R_reads' HO274.out).2.1); rintro e w27 ⟨v281, rfl, ho0, hb⟩; refine ⟨_, rfl, ?_⟩; have n0_ := am (Kd.R_elder' zq1' (Kd.R_base ho0) hb); have n1_ := am (Kd.R_elder' zr1' (Kd.R_base ho0) hb); have n2_ := am (Kd.R_elder' zr' (Kd.R_base ho0) hb); have n3_ := am (Kd.R_lower (Kd.R_new' (Kd.R_new' (Kd.R_new' ho0 (Kd.R_lt zq1')) (Kd.R_lt zr1')) (Kd.R_lt zr')) (below_size zf')); have n4_ := am (blk_below (g := gb254) (o := .cells #[.int .i64 a0_0, .int .i64 a0_1, .slice A0_2 l0_2.length c0_2, .int .i64 a0_3, .int .i64 a0_4, .int .i64 a0_5, .int .i64 a0_6] 24 (0, 0)) (by (with_reducible repeat (first | apply kn | apply kd | apply ka)); refine blk_far ?_ NB254_279.out _; (with_reducible repeat (first | apply kn | apply kd | apply ka)); refine blk_far ?_ NB254_279.out _; (with_reducible repeat (first | apply kn | apply kd | apply ka)); refine blk_far ?_ NB254_279.out _; (with_reducible repeat (first | apply kn | apply kd | apply ka)); refine blk_far ?_ NB254_279.out _; (with_reducible repeat (first | apply kn | apply kd | apply ka)); refine blk_far ?_ NB254_279.out _; (with_reducible repeat (first | apply kn | apply kd | apply ka)); refine blk_far ?_ NB254_279.out _; (with_reducible repeat (first | apply kn | apply kd | apply ka)); refine blk_far ?_ NB254_279.out _; (with_reducible repeat (first | apply kn | apply kd | apply ka)); exact BK254.out) hb); have n5_ := am (blk_below (g := gb279) (o := .cells #[.int .i64 t270, .int .i64 t271, .slice Ao26 t272.length co26, .int .i64 t275, .int .i64 t276, .int .i64 t277, .int .i64 t278] 28 (0, 0)) (by (with_reducible repeat (first | apply kn | apply kd | apply ka)); refine blk_put (cs := #[.int .i64 t270, .int .i64 t271, .slice Ao26 t272.length co26, .int .i64 t275, .int .i64 t276, .int .i64 t277, .int .i64 0]) ?_ 6 _ rfl; (with_reducible repeat (first | apply kn | apply kd | apply ka)); refine blk_put (cs := #[.int .i64 t270, .int .i64 t271, .slice Ao26 t272.length co26, .int .i64 t275, .int .i64 t276, .int .i64 0, .int .i64 0]) ?_ 5 _ rfl; (with_reducible repeat (first | apply kn | apply kd | apply ka)); refine blk_put (cs := #[.int .i64 t270, .int .i64 t271, .slice Ao26 t272.length co26, .int .i64 t275, .int .i64 0, .int .i64 0, .int .i64 0]) ?_ 4 _ rfl; (with_reducible repeat (first | apply kn | apply kd | apply ka)); refine blk_put (cs := #[.int .i64 t270, .int .i64 t271, .slice Ao26 t272.length co26, .int .i64 0, .int .i64 0, .int .i64 0, .int .i64 0]) ?_ 3 _ rfl; (with_reducible repeat (first | apply kn | apply kd | apply ka)); refine blk_put (cs := #[.int .i64 t270, .int .i64 t271, .slice none 0 0, .int .i64 0, .int .i64 0, .int .i64 0, .int .i64 0]) ?_ 2 _ rfl; (with_reducible repeat (first | apply kn | apply kd | apply ka)); refine blk_put (cs := #[.int .i64 t270, .int .i64 0, .slice none 0 0, .int .i64 0, .int .i64 0, .int .i64 0, .int .i64 0]) ?_ 1 _ rfl; (with_reducible repeat (first | apply kn | apply kd | apply ka)); refine blk_put (cs := #[.int .i64 0, .int .i64 0, .slice none 0 0, .int .i64 0, .int .i64 0, .int .i64 0, .int .i64 0]) ?_ 0 _ rfl; (with_reducible repeat (first | apply kn | apply kd | apply ka)); exact BK279.out) hb); have n6_ := am (below_step zf' hb); clear HO260; clear HO267; clear HO274; clear BK254; clear BK279; clear HB; have HO260 := n0_; have HO267 := n1_; have HO274 := n2_; have HO282 := n3_; have BK254 := n4_; have BK279 := n5_; have HB := n6_; clear n0_ n1_ n2_ n3_ n4_ n5_ n6_; (try clear hb); (try clear hb2); (try clear hk); (try clear hi); (try clear ho0)))
  (try simp only [Act.put, s1, s2, s3])
  go_cut [58] (fun v58 wc => ∃ (kq : Nat) (x58_12 : Bool), v58 = .bool x58_12 ∧ Aside0 (laws_FnExactCheapestWay.j0 kq a1 a2 t265 t268 t269 t280 t283 t284 x58_12 a0_0 a0_1 l0_2 a0_3 a0_4 a0_5 a0_6 t270 t271 t272 t275 t276 t277 t278 = some r) ∧ Aside0 (kq ≤ k) ∧ Aside0 (Kd.R (Kd.int .i64) 3 wc w.heap.size (fun k_ => some k_ ≠ (v281 : Value).ownBlock ∧ some k_ ≠ ((.slice Ao26 t272.length co26) : Value).ownBlock) v266 t265) ∧ Aside0 (Kd.R (Kd.int .i64) 3 wc w.heap.size (fun k_ => some k_ ≠ (v266 : Value).ownBlock ∧ some k_ ≠ ((.slice Ao26 t272.length co26) : Value).ownBlock) v281 t280) ∧ Aside0 (Kd.R (Kd.int .i64) 3 wc w.heap.size (fun k_ => some k_ ≠ (v266 : Value).ownBlock ∧ some k_ ≠ (v281 : Value).ownBlock) (.slice Ao26 t272.length co26) t272) ∧ Aside0 (wc.heap[gb254]? = some (.cells #[.int .i64 a0_0, .int .i64 a0_1, (.slice A0_2 l0_2.length c0_2), .int .i64 a0_3, .int .i64 a0_4, .int .i64 a0_5, .int .i64 a0_6] 24 (0, 0))) ∧ Aside0 (wc.heap[gb279]? = some (.cells #[.int .i64 t270, .int .i64 t271, (.slice Ao26 t272.length co26), .int .i64 t275, .int .i64 t276, .int .i64 t277, .int .i64 t278] 28 (0, 0))) ∧ Aside0 (Below w.heap.size w wc))
  case first =>
   have H := HC13.out
   clear HC13
   replace H := Option.bind_eq_some_iff.mp H
   obtain ⟨t285, A280, H⟩ := H
   replace H : (if t285 = true then (if t283 = t268 then (laws_FnExactCheapestWay.j0 k a1 a2 t265 t268 t269 t280 t283 t284 (t284 != t269) a0_0 a0_1 l0_2 a0_3 a0_4 a0_5 a0_6 t270 t271 t272 t275 t276 t277 t278) else (laws_FnExactCheapestWay.j0 k a1 a2 t265 t268 t269 t280 t283 t284 true a0_0 a0_1 l0_2 a0_3 a0_4 a0_5 a0_6 t270 t271 t272 t275 t276 t277 t278)) else (laws_FnExactCheapestWay.j0 k a1 a2 t265 t268 t269 t280 t283 t284 true a0_0 a0_1 l0_2 a0_3 a0_4 a0_5 a0_6 t270 t271 t272 t275 t276 t277 t278)) = some r := H
   have A28 := Aside0.mk A280
   clear A280
   by_cases c29 : t285 = true
   ·subst c29
    have H1 : (if t283 = t268 then (laws_FnExactCheapestWay.j0 k a1 a2 t265 t268 t269 t280 t283 t284 (t284 != t269) a0_0 a0_1 l0_2 a0_3 a0_4 a0_5 a0_6 t270 t271 t272 t275 t276 t277 t278) else (laws_FnExactCheapestWay.j0 k a1 a2 t265 t268 t269 t280 t283 t284 true a0_0 a0_1 l0_2 a0_3 a0_4 a0_5 a0_6 t270 t271 t272 t275 t276 t277 t278)) = some r := by rw [if_pos rfl] at H; exact H
    clear H
    have H := H1
    clear H1
    by_cases c30 : t283 = t268
    ·rw [if_pos c30] at H
     have c30b0 : (t283 == t268) = true := beq_iff_eq.mpr c30
     have c30b1 : (t283 != t268) = false := bne_eq_false_iff_eq.mpr c30
     clear c30
     (first | rw [c30b0] | (simp only [i64_w, i32_w]; rw [c30b0]) | skip)
     have H' := Aside0.mk H
     clear H
     obtain ⟨Ao31, co31, eo31⟩ := Kd.R_slice HO282.out
     subst eo31
     obtain ⟨Ao32, co32, eo32⟩ := Kd.R_slice HO267.out
     subst eo32
     go_wp2_with (first | ((with_reducible refine gate_callee (f := 17) rfl ?_); refine goesL_ (some 47) rfl rfl Tryd.func17 (by kernel_rfl) rfl #[.slice Ao31 t280.length co31, .slice Ao32 t265.length co32] rfl zc' ?_; (with_reducible refine (laws_eqIntS.calls k _ _ t280 _ _ t265 true _ ?side1 ?side2 ?side3 ?side4 A28.out).mono ?_); (case side1 => exact zq2'); (case side2 => exact (Kd.R_reads' HO282.out).2.1); (case side3 => exact zr2'); (case side4 => exact (Kd.R_reads' HO267.out).2.1); rintro e w' ⟨rfl, ⟨nd, rfl⟩⟩; refine ⟨_, rfl, ?_⟩))
     go_meet
     case rel => exact ⟨_, ((t284 != t269)), zd', H', ⟨zu1'⟩, ⟨za3'⟩, ⟨zb3'⟩, ⟨zc3'⟩, ⟨zm'⟩, ⟨zy'⟩, ⟨zf'⟩⟩
    ·rw [if_neg c30] at H
     have c30b0 : (t283 == t268) = false := beq_eq_false_iff_ne.mpr c30
     have c30b1 : (t283 != t268) = true := bne_iff_ne.mpr c30
     (first | rw [c30b0] | (simp only [i64_w, i32_w]; rw [c30b0]) | skip)
     have H' := Aside0.mk H
     clear H
     obtain ⟨Ao33, co33, eo33⟩ := Kd.R_slice HO282.out
     subst eo33
     obtain ⟨Ao34, co34, eo34⟩ := Kd.R_slice HO267.out
     subst eo34
     go_wp2_with (first | ((with_reducible refine gate_callee (f := 17) rfl ?_); refine goesL_ (some 47) rfl rfl Tryd.func17 (by kernel_rfl) rfl #[.slice Ao33 t280.length co33, .slice Ao34 t265.length co34] rfl zc' ?_; (with_reducible refine (laws_eqIntS.calls k _ _ t280 _ _ t265 true _ ?side1 ?side2 ?side3 ?side4 A28.out).mono ?_); (case side1 => exact zq2'); (case side2 => exact (Kd.R_reads' HO282.out).2.1); (case side3 => exact zr2'); (case side4 => exact (Kd.R_reads' HO267.out).2.1); rintro e w' ⟨rfl, ⟨nd, rfl⟩⟩; refine ⟨_, rfl, ?_⟩))
     go_meet
     case rel => exact ⟨_, (true), zd', H', ⟨zu1'⟩, ⟨za3'⟩, ⟨zb3'⟩, ⟨zc3'⟩, ⟨zm'⟩, ⟨zy'⟩, ⟨zf'⟩⟩
   ·replace c29 := Bool.eq_false_iff.mpr c29
    subst c29
    have H1 : (laws_FnExactCheapestWay.j0 k a1 a2 t265 t268 t269 t280 t283 t284 true a0_0 a0_1 l0_2 a0_3 a0_4 a0_5 a0_6 t270 t271 t272 t275 t276 t277 t278) = some r := by rw [if_neg (show ¬ (false = true) by decide)] at H; exact H
    clear H
    have H := H1
    clear H1
    have H' := Aside0.mk H
    clear H
    obtain ⟨Ao35, co35, eo35⟩ := Kd.R_slice HO282.out
    subst eo35
    obtain ⟨Ao36, co36, eo36⟩ := Kd.R_slice HO267.out
    subst eo36
    go_wp2_with (first | ((with_reducible refine gate_callee (f := 17) rfl ?_); refine goesL_ (some 47) rfl rfl Tryd.func17 (by kernel_rfl) rfl #[.slice Ao35 t280.length co35, .slice Ao36 t265.length co36] rfl zc' ?_; (with_reducible refine (laws_eqIntS.calls k _ _ t280 _ _ t265 false _ ?side1 ?side2 ?side3 ?side4 A28.out).mono ?_); (case side1 => exact zq2'); (case side2 => exact (Kd.R_reads' HO282.out).2.1); (case side3 => exact zr2'); (case side4 => exact (Kd.R_reads' HO267.out).2.1); rintro e w' ⟨rfl, ⟨nd, rfl⟩⟩; refine ⟨_, rfl, ?_⟩))
    go_meet
    case rel => exact ⟨_, (true), zd', H', ⟨zu1'⟩, ⟨za3'⟩, ⟨zb3'⟩, ⟨zc3'⟩, ⟨zm'⟩, ⟨zy'⟩, ⟨zf'⟩⟩
  case rest =>
   clear HC13
   try clear c1
   try clear c2
   try clear p2
   try clear c3
   try clear c5
   try clear c5b0
   try clear c6
   try clear c10
   try clear c12
   try clear c17
   try clear c23
   try clear c24
   try clear c29
   try clear c30
   try clear c30b0
   try clear c30b1
   try clear hcz15_0
   try clear hcz15_1
   try clear hcz15_2
   try clear hcz15_3
   try clear hcz15_4
   try clear hcz15_5
   try clear hcz15_6
   try clear hcz17_0
   try clear hcz17_1
   try clear hcz17_2
   try clear hcz17_3
   try clear hcz17_4
   try clear hcz17_5
   try clear hcz17_6
   try clear hcz21_0
   try clear hcz21_1
   try clear hcz21_2
   try clear hcz21_3
   try clear hcz21_4
   try clear hcz21_5
   try clear hcz21_6
   try clear hcz25_0
   try clear hcz25_1
   try clear hcz25_2
   try clear hcz25_3
   try clear hcz25_4
   try clear hcz25_5
   try clear hcz25_6
   try clear hcz7_0
   try clear hcz7_1
   try clear hcz7_2
   try clear hcz7_3
   try clear hcz7_4
   try clear hcz7_5
   try clear hcz7_6
   try clear hfz15_0
   try clear hfz15_1
   try clear hfz15_2
   try clear hfz15_3
   try clear hfz15_4
   try clear hfz15_5
   try clear hfz15_6
   try clear hfz17_0
   try clear hfz17_1
   try clear hfz17_2
   try clear hfz17_3
   try clear hfz17_4
   try clear hfz17_5
   try clear hfz17_6
   try clear hfz21_0
   try clear hfz21_1
   try clear hfz21_2
   try clear hfz21_3
   try clear hfz21_4
   try clear hfz21_5
   try clear hfz21_6
   try clear hfz25_0
   try clear hfz25_1
   try clear hfz25_2
   try clear hfz25_3
   try clear hfz25_4
   try clear hfz25_5
   try clear hfz25_6
   try clear hfz7_0
   try clear hfz7_1
   try clear hfz7_2
   try clear hfz7_3
   try clear hfz7_4
   try clear hfz7_5
   try clear hfz7_6
   obtain ⟨kq, x58_12, rfl, HA, HJ12, HO_8, HO_12, HO_280002, BK254, BK279, HB⟩ := hcut
   cases kq with
   | zero => exact absurd HA.out (by simp [laws_FnExactCheapestWay.j0])
   | succ kj12 =>
    have H := HA.out
    clear HA
    simp only [laws_FnExactCheapestWay.j0] at H
    by_cases c37 : x58_12 = true
    ·subst c37
     have H1 : (some false) = some r := by rw [if_pos rfl] at H; exact H
     clear H
     have H := H1
     clear H1
     obtain rfl := Option.some.inj H
     go_wp2
     go_ret
     exact ⟨by first | rfl | (simp [errW_none, errW_some] <;> rfl) | (simp [*, errW_none, errW_some] <;> rfl), by repeat (first | (with_reducible first | exact HB.out | apply ba | apply bn | apply below_drew1 | refine below_set ?_ GE254.out | refine below_set ?_ GE279.out) | exact HB.out)⟩
    ·replace c37 := Bool.eq_false_iff.mpr c37
     subst c37
     have H1 : ((laws_toTerrain.f kj12 a0_0 a0_1 l0_2 a0_3 a0_4 a0_5 a0_6).bind fun bt286 => ((laws_eqTerrain.f kj12 t270 t271 t272 t275 t276 t277 t278 bt286.1 bt286.2.1 bt286.2.2.1 bt286.2.2.2.1 bt286.2.2.2.2.1 bt286.2.2.2.2.2.1 bt286.2.2.2.2.2.2).bind fun t295 => (if t295 = true then ((laws_markTerrain.f kj12 t270 t271 t272 t275 t276 t277 t278 1).bind fun bt296 => (if bt296.1 < 0 then (laws_FnExactCheapestWay.j1 kj12 a1 a2 t265 t268 t269 t280 true a0_0 a0_1 l0_2 a0_3 a0_4 a0_5 a0_6) else ((laws_eqIntS.f kj12 t280 t265).bind fun t298 => (if t298 = true then (if t283 = t268 then (laws_FnExactCheapestWay.j1 kj12 a1 a2 t265 t268 t269 t280 (t284 != t269) a0_0 a0_1 l0_2 a0_3 a0_4 a0_5 a0_6) else (laws_FnExactCheapestWay.j1 kj12 a1 a2 t265 t268 t269 t280 true a0_0 a0_1 l0_2 a0_3 a0_4 a0_5 a0_6)) else (laws_FnExactCheapestWay.j1 kj12 a1 a2 t265 t268 t269 t280 true a0_0 a0_1 l0_2 a0_3 a0_4 a0_5 a0_6))))) else (some false)))) = some r := by rw [if_neg (show ¬ (false = true) by decide)] at H; exact H
     clear H
     have H := H1
     clear H1
     replace H := Option.bind_eq_some_iff.mp H
     obtain ⟨⟨t286, t287, t288, t291, t292, t293, t294⟩, A380, H⟩ := H
     replace H : ((laws_eqTerrain.f kj12 t270 t271 t272 t275 t276 t277 t278 t286 t287 t288 t291 t292 t293 t294).bind fun t295 => (if t295 = true then ((laws_markTerrain.f kj12 t270 t271 t272 t275 t276 t277 t278 1).bind fun bt296 => (if bt296.1 < 0 then (laws_FnExactCheapestWay.j1 kj12 a1 a2 t265 t268 t269 t280 true a0_0 a0_1 l0_2 a0_3 a0_4 a0_5 a0_6) else ((laws_eqIntS.f kj12 t280 t265).bind fun t298 => (if t298 = true then (if t283 = t268 then (laws_FnExactCheapestWay.j1 kj12 a1 a2 t265 t268 t269 t280 (t284 != t269) a0_0 a0_1 l0_2 a0_3 a0_4 a0_5 a0_6) else (laws_FnExactCheapestWay.j1 kj12 a1 a2 t265 t268 t269 t280 true a0_0 a0_1 l0_2 a0_3 a0_4 a0_5 a0_6)) else (laws_FnExactCheapestWay.j1 kj12 a1 a2 t265 t268 t269 t280 true a0_0 a0_1 l0_2 a0_3 a0_4 a0_5 a0_6))))) else (some false))) = some r := H
     have A38 := Aside0.mk A380
     clear A380
     replace H := Option.bind_eq_some_iff.mp H
     obtain ⟨t295, A390, H⟩ := H
     replace H : (if t295 = true then ((laws_markTerrain.f kj12 t270 t271 t272 t275 t276 t277 t278 1).bind fun bt296 => (if bt296.1 < 0 then (laws_FnExactCheapestWay.j1 kj12 a1 a2 t265 t268 t269 t280 true a0_0 a0_1 l0_2 a0_3 a0_4 a0_5 a0_6) else ((laws_eqIntS.f kj12 t280 t265).bind fun t298 => (if t298 = true then (if t283 = t268 then (laws_FnExactCheapestWay.j1 kj12 a1 a2 t265 t268 t269 t280 (t284 != t269) a0_0 a0_1 l0_2 a0_3 a0_4 a0_5 a0_6) else (laws_FnExactCheapestWay.j1 kj12 a1 a2 t265 t268 t269 t280 true a0_0 a0_1 l0_2 a0_3 a0_4 a0_5 a0_6)) else (laws_FnExactCheapestWay.j1 kj12 a1 a2 t265 t268 t269 t280 true a0_0 a0_1 l0_2 a0_3 a0_4 a0_5 a0_6))))) else (some false)) = some r := H
     have A39 := Aside0.mk A390
     clear A390
     by_cases c40 : t295 = true
     ·subst c40
      have H1 : ((laws_markTerrain.f kj12 t270 t271 t272 t275 t276 t277 t278 1).bind fun bt296 => (if bt296.1 < 0 then (laws_FnExactCheapestWay.j1 kj12 a1 a2 t265 t268 t269 t280 true a0_0 a0_1 l0_2 a0_3 a0_4 a0_5 a0_6) else ((laws_eqIntS.f kj12 t280 t265).bind fun t298 => (if t298 = true then (if t283 = t268 then (laws_FnExactCheapestWay.j1 kj12 a1 a2 t265 t268 t269 t280 (t284 != t269) a0_0 a0_1 l0_2 a0_3 a0_4 a0_5 a0_6) else (laws_FnExactCheapestWay.j1 kj12 a1 a2 t265 t268 t269 t280 true a0_0 a0_1 l0_2 a0_3 a0_4 a0_5 a0_6)) else (laws_FnExactCheapestWay.j1 kj12 a1 a2 t265 t268 t269 t280 true a0_0 a0_1 l0_2 a0_3 a0_4 a0_5 a0_6))))) = some r := by rw [if_pos rfl] at H; exact H
      clear H
      have H := H1
      clear H1
      replace H := Option.bind_eq_some_iff.mp H
      obtain ⟨⟨t296, t297⟩, A410, H⟩ := H
      replace H : (if t296 < 0 then (laws_FnExactCheapestWay.j1 kj12 a1 a2 t265 t268 t269 t280 true a0_0 a0_1 l0_2 a0_3 a0_4 a0_5 a0_6) else ((laws_eqIntS.f kj12 t280 t265).bind fun t298 => (if t298 = true then (if t283 = t268 then (laws_FnExactCheapestWay.j1 kj12 a1 a2 t265 t268 t269 t280 (t284 != t269) a0_0 a0_1 l0_2 a0_3 a0_4 a0_5 a0_6) else (laws_FnExactCheapestWay.j1 kj12 a1 a2 t265 t268 t269 t280 true a0_0 a0_1 l0_2 a0_3 a0_4 a0_5 a0_6)) else (laws_FnExactCheapestWay.j1 kj12 a1 a2 t265 t268 t269 t280 true a0_0 a0_1 l0_2 a0_3 a0_4 a0_5 a0_6)))) = some r := H
      have A41 := Aside0.mk A410
      clear A410
      have HC42 := Aside0.mk H
      clear H
      try go_wp2
      have n0_ := am (Kd.R_drew HO_8.out)
      have n1_ := am (Kd.R_drew HO_12.out)
      have n2_ := am (Kd.R_drew HO_280002.out)
      have n3_ := am (blk_drew BK254.out)
      have n4_ := am (blk_drew BK279.out)
      have n5_ := am (below_drew1 HB.out)
      clear HO_8
      clear HO_12
      clear HO_280002
      clear BK254
      clear BK279
      clear HB
      have HO_8 := n0_
      have HO_12 := n1_
      have HO_280002 := n2_
      have BK254 := n3_
      have BK279 := n4_
      have HB := n5_
      clear n0_ n1_ n2_ n3_ n4_ n5_
      refine start_ (n := 5) (S := fun w' => w'.cell? ⟨gb279, 0, none⟩ = some (.int .i64 t270) ∧ w'.cell? ⟨gb279, 1, none⟩ = some (.int .i64 t271) ∧ w'.cell? ⟨gb279, 2, none⟩ = some (.slice Ao26 t272.length co26) ∧ w'.cell? ⟨gb279, 3, none⟩ = some (.int .i64 t275) ∧ w'.cell? ⟨gb279, 4, none⟩ = some (.int .i64 t276) ∧ w'.cell? ⟨gb279, 5, none⟩ = some (.int .i64 t277) ∧ w'.cell? ⟨gb279, 6, none⟩ = some (.int .i64 t278) ∧ w'.cell? ⟨gb254, 0, none⟩ = some (.int .i64 a0_0) ∧ w'.cell? ⟨gb254, 1, none⟩ = some (.int .i64 a0_1) ∧ w'.cell? ⟨gb254, 2, none⟩ = some (.slice A0_2 l0_2.length c0_2) ∧ w'.cell? ⟨gb254, 3, none⟩ = some (.int .i64 a0_3) ∧ w'.cell? ⟨gb254, 4, none⟩ = some (.int .i64 a0_4) ∧ w'.cell? ⟨gb254, 5, none⟩ = some (.int .i64 a0_5) ∧ w'.cell? ⟨gb254, 6, none⟩ = some (.int .i64 a0_6)) (ds := []) #[Z,Z,Z,Z,Z] (by kernel_rfl) rfl rfl ⟨(blk_cell BK279.out 0).trans rfl, (blk_cell BK279.out 1).trans rfl, (blk_cell BK279.out 2).trans rfl, (blk_cell BK279.out 3).trans rfl, (blk_cell BK279.out 4).trans rfl, (blk_cell BK279.out 5).trans rfl, (blk_cell BK279.out 6).trans rfl, (blk_cell BK254.out 0).trans rfl, (blk_cell BK254.out 1).trans rfl, (blk_cell BK254.out 2).trans rfl, (blk_cell BK254.out 3).trans rfl, (blk_cell BK254.out 4).trans rfl, (blk_cell BK254.out 5).trans rfl, (blk_cell BK254.out 6).trans rfl⟩ (fun hHeld => ?_)
      generalize wc.drew = w43 at HO_8 HO_12 HO_280002 BK254 BK279 HB hHeld ⊢
      refine take_ (i := 0) (N := some 59) (v := ?_) (a' := ?_) #[Y,Z,Z,Z,Z] rfl rfl (by kernel_rfl) (fun _ _ _ h => h) (Or.inl ⟨by rfl, ?_⟩) hHeld ?_ ?_
      rotate_left
      ·rintro w' ⟨s0, s1, s2, s3, s4, s5, s6, s7, s8, s9, s10, s11, s12, s13⟩
       go_simp
       with_reducible rfl
      rotate_left
      ·simp only [Act.put, s1, s2, s3, i64_w, i32_w]
       rfl
      refine take_ (i := 1) (N := some 60) (v := ?_) (a' := ?_) #[Y,Y,Z,Z,Z] rfl rfl (by kernel_rfl) (fun _ _ _ h => h) (Or.inl ⟨by rfl, ?_⟩) hHeld ?_ ?_
      rotate_left
      ·rintro w' ⟨s0, s1, s2, s3, s4, s5, s6, s7, s8, s9, s10, s11, s12, s13⟩
       go_simp
       with_reducible rfl
      rotate_left
      ·simp only [Act.put, s1, s2, s3, i64_w, i32_w]
       rfl
      refine one_ (i := 2) (N := some 61) #[Y,Y,Y,Z,Z] rfl rfl (by kernel_rfl) (by decide) (fun K hK => ?_)
      refine goes_ Tryd.func12 (by kernel_rfl) rfl #[.agg #[.int .i64 a0_0, .int .i64 a0_1, .slice A0_2 l0_2.length c0_2, .int .i64 a0_3, .int .i64 a0_4, .int .i64 a0_5, .int .i64 a0_6]] (by rfl) rfl rfl zc' ?_
      with_reducible refine (laws_toTerrain.calls kj12 a0_0 a0_1 _ _ l0_2 a0_3 a0_4 a0_5 a0_6 t286 t287 t288 t291 t292 t293 t294 _ ?side1 ?side2 A38.out).mono ?_
      (case side1 => exact zb')
      (case side2 => exact zn1')
      rintro e w44 ⟨v289, rfl, ho0, hb⟩
      refine ⟨_, rfl, ?_⟩
      have n0_ := am (Kd.R_elder' zh1' (Kd.R_base ho0) hb)
      have n1_ := am (Kd.R_elder' zg1' (Kd.R_base ho0) hb)
      have n2_ := am (Kd.R_elder' ze1' (Kd.R_base ho0) hb)
      have n3_ := am (Kd.R_lower (Kd.R_new' (Kd.R_new' (Kd.R_new' ho0 (Kd.R_lt zh1')) (Kd.R_lt zg1')) (Kd.R_lt ze1')) (below_size zf'))
      have n4_ := am (blk_below (g := gb254) (o := .cells #[.int .i64 a0_0, .int .i64 a0_1, .slice A0_2 l0_2.length c0_2, .int .i64 a0_3, .int .i64 a0_4, .int .i64 a0_5, .int .i64 a0_6] 24 (0, 0)) zm' hb)
      have n5_ := am (blk_below (g := gb279) (o := .cells #[.int .i64 t270, .int .i64 t271, .slice Ao26 t272.length co26, .int .i64 t275, .int .i64 t276, .int .i64 t277, .int .i64 t278] 28 (0, 0)) zy' hb)
      have n6_ := am (below_step zf' hb)
      clear HO_8
      clear HO_12
      clear HO_280002
      clear BK254
      clear BK279
      clear HB
      have HO_8 := n0_
      have HO_12 := n1_
      have HO_280002 := n2_
      have HO290 := n3_
      have BK254 := n4_
      have BK279 := n5_
      have HB := n6_
      clear n0_ n1_ n2_ n3_ n4_ n5_ n6_
      (try clear hb)
      (try clear hb2)
      (try clear hk)
      (try clear hi)
      (try clear ho0)
      obtain ⟨Ao45, co45, eo45⟩ := Kd.R_slice HO290.out
      (first | subst eo45 | (injection eo45 with f1_ f2_ f3_; have f4_ := f1_.symm; have f5_ := f3_.symm; clear f1_ f2_ f3_; subst f4_; subst f5_))
      refine hK.out _ _ ⟨(blk_cell BK279.out 0).trans rfl, (blk_cell BK279.out 1).trans rfl, (blk_cell BK279.out 2).trans rfl, (blk_cell BK279.out 3).trans rfl, (blk_cell BK279.out 4).trans rfl, (blk_cell BK279.out 5).trans rfl, (blk_cell BK279.out 6).trans rfl, (blk_cell BK254.out 0).trans rfl, (blk_cell BK254.out 1).trans rfl, (blk_cell BK254.out 2).trans rfl, (blk_cell BK254.out 3).trans rfl, (blk_cell BK254.out 4).trans rfl, (blk_cell BK254.out 5).trans rfl, (blk_cell BK254.out 6).trans rfl⟩ (fun hHeld => ?_)
      clear hK K
      refine norm_ (a' := ?_) ?_ ?_
      rotate_left
      ·show Act.put _ (some 61) _ = _
       simp only [Act.put, s1, s2, s3, i64_w, i32_w]
       rfl
      refine one_ (i := 3) (N := some 62) #[Y,Y,Y,Y,Z] rfl rfl (by kernel_rfl) (by decide) (fun K hK => ?_)
      refine goes_ Tryd.func14 (by kernel_rfl) rfl #[.agg #[.int .i64 t270, .int .i64 t271, .slice Ao26 t272.length co26, .int .i64 t275, .int .i64 t276, .int .i64 t277, .int .i64 t278], .agg #[.int .i64 t286, .int .i64 t287, .slice Ao45 t288.length co45, .int .i64 t291, .int .i64 t292, .int .i64 t293, .int .i64 t294]] (by rfl) rfl rfl zc' ?_
      with_reducible refine (laws_eqTerrain.calls kj12 t270 t271 _ _ t272 t275 t276 t277 t278 t286 t287 _ _ t288 t291 t292 t293 t294 true _ ?side1 ?side2 ?side3 ?side4 A39.out).mono ?_
      (case side1 => exact zs3')
      (case side2 => exact (Kd.R_reads' HO_280002.out).2.1)
      (case side3 => exact zv3')
      (case side4 => exact (Kd.R_reads' HO290.out).2.1)
      rintro e w46 ⟨rfl, hb⟩
      refine ⟨_, rfl, ?_⟩
      have n0_ := am (Kd.R_below zh1' hb)
      have n1_ := am (Kd.R_below zg1' hb)
      have n2_ := am (Kd.R_below ze1' hb)
      have n3_ := am (Kd.R_below (by (with_reducible repeat (first | apply Kd.R_alloc | apply Kd.R_drewN | apply Kd.R_drew)); exact HO290.out) hb)
      have n4_ := am (blk_below (g := gb254) (o := .cells #[.int .i64 a0_0, .int .i64 a0_1, .slice A0_2 l0_2.length c0_2, .int .i64 a0_3, .int .i64 a0_4, .int .i64 a0_5, .int .i64 a0_6] 24 (0, 0)) zm' hb)
      have n5_ := am (blk_below (g := gb279) (o := .cells #[.int .i64 t270, .int .i64 t271, .slice Ao26 t272.length co26, .int .i64 t275, .int .i64 t276, .int .i64 t277, .int .i64 t278] 28 (0, 0)) zy' hb)
      have n6_ := am (below_step zf' hb)
      clear HO_8
      clear HO_12
      clear HO_280002
      clear HO290
      clear BK254
      clear BK279
      clear HB
      have HO_8 := n0_
      have HO_12 := n1_
      have HO_280002 := n2_
      have HO290 := n3_
      have BK254 := n4_
      have BK279 := n5_
      have HB := n6_
      clear n0_ n1_ n2_ n3_ n4_ n5_ n6_
      (try clear hb)
      (try clear hb2)
      (try clear hk)
      (try clear hi)
      refine hK.out _ _ ⟨(blk_cell BK279.out 0).trans rfl, (blk_cell BK279.out 1).trans rfl, (blk_cell BK279.out 2).trans rfl, (blk_cell BK279.out 3).trans rfl, (blk_cell BK279.out 4).trans rfl, (blk_cell BK279.out 5).trans rfl, (blk_cell BK279.out 6).trans rfl, (blk_cell BK254.out 0).trans rfl, (blk_cell BK254.out 1).trans rfl, (blk_cell BK254.out 2).trans rfl, (blk_cell BK254.out 3).trans rfl, (blk_cell BK254.out 4).trans rfl, (blk_cell BK254.out 5).trans rfl, (blk_cell BK254.out 6).trans rfl⟩ (fun hHeld => ?_)
      clear hK K
      refine norm_ (a' := ?_) ?_ ?_
      rotate_left
      ·show Act.put _ (some 62) _ = _
       simp only [Act.put, s1, s2, s3, i64_w, i32_w]
       rfl
      refine pure_ (i := 4) (N := some 63) (v := ?_) (a' := ?_) #[Y,Y,Y,Y,Y] rfl rfl (by kernel_rfl) (fun _ _ _ h => h) (Or.inl ⟨by rfl, ?_⟩) ?_ ?_
      rotate_left
      ·intro w'
       go_simp
       with_reducible rfl
      rotate_left
      ·simp only [Act.put, s1, s2, s3, i64_w, i32_w]
       rfl
      refine done_ (by kernel_rfl) ?_
      have hnb47 := NB279_254.out
      have hnc47 := NB254_279.out
      have hcz48_0 : w46.cell? ⟨gb279, 0, none⟩ = some (.int .i64 t270) := (blk_cell BK279.out 0).trans rfl
      have hcz48_1 : w46.cell? ⟨gb279, 1, none⟩ = some (.int .i64 t271) := (blk_cell BK279.out 1).trans rfl
      have hcz48_2 : w46.cell? ⟨gb279, 2, none⟩ = some (.slice Ao26 t272.length co26) := (blk_cell BK279.out 2).trans rfl
      have hcz48_3 : w46.cell? ⟨gb279, 3, none⟩ = some (.int .i64 t275) := (blk_cell BK279.out 3).trans rfl
      have hcz48_4 : w46.cell? ⟨gb279, 4, none⟩ = some (.int .i64 t276) := (blk_cell BK279.out 4).trans rfl
      have hcz48_5 : w46.cell? ⟨gb279, 5, none⟩ = some (.int .i64 t277) := (blk_cell BK279.out 5).trans rfl
      have hcz48_6 : w46.cell? ⟨gb279, 6, none⟩ = some (.int .i64 t278) := (blk_cell BK279.out 6).trans rfl
      have hfz48_0 := blk_frozen BK279.out 0
      have hfz48_1 := blk_frozen BK279.out 1
      have hfz48_2 := blk_frozen BK279.out 2
      have hfz48_3 := blk_frozen BK279.out 3
      have hfz48_4 := blk_frozen BK279.out 4
      have hfz48_5 := blk_frozen BK279.out 5
      have hfz48_6 := blk_frozen BK279.out 6
      go_upto_region 14 with (first | ((with_reducible refine gate_callee (f := 18) rfl ?_); refine goesL_ (some 66) rfl rfl Tryd.func18 (by kernel_rfl) rfl #[.agg #[.int .i64 t270, .int .i64 t271, .slice Ao26 t272.length co26, .int .i64 t275, .int .i64 t276, .int .i64 t277, .int .i64 t278], .int .i64 1] rfl zc' ?_; (with_reducible refine (laws_markTerrain.calls kj12 t270 t271 (fun k_ => some k_ = (.slice Ao26 t272.length co26 : Value).ownBlock) (.slice Ao26 t272.length co26) t272 t275 t276 t277 t278 1 t296 t297 w _ ?side1 ?side2 A41.out).mono ?_); (case side1 => exact zf'); (case side2 => exact Kd.R_tight rfl HO_280002.out); rintro e w49 ⟨rfl, hy0, hb, hkp⟩; refine ⟨_, rfl, ?_⟩; have n0_ := am (Kd.R_mono (ok' := fun k_ => some k_ ≠ (v281 : Value).ownBlock ∧ some k_ ≠ (.slice Ao26 t272.length co26 : Value).ownBlock ∧ some k_ ≠ (.slice Ao45 t288.length co45 : Value).ownBlock) (Kd.R_keptB (HO_8.out) hkp (fun k_ hk_ hs_ => (hk_.1.2) hs_)) (fun k_ hk_ => ⟨hk_.1.1.1, hk_.1.1.2, hk_.1.2⟩)); have n1_ := am (Kd.R_mono (ok' := fun k_ => some k_ ≠ (v266 : Value).ownBlock ∧ some k_ ≠ (.slice Ao26 t272.length co26 : Value).ownBlock ∧ some k_ ≠ (.slice Ao45 t288.length co45 : Value).ownBlock) (Kd.R_keptB (HO_12.out) hkp (fun k_ hk_ hs_ => (hk_.1.2) hs_)) (fun k_ hk_ => ⟨hk_.1.1.1, hk_.1.1.2, hk_.1.2⟩)); have n2_ := am (Kd.R_reok rfl hy0 (fun k_ e_ => HO_280002.out.1 k_ e_)); have n3_ := am (blk_kept zm' hkp (fun hs_ => (fun e_ => (Kd.R_ne HO_280002.out BK254.out (by decide)) e_) hs_)); have n4_ := am (blk_kept zy' hkp (fun hs_ => (fun e_ => (Kd.R_ne HO_280002.out BK279.out (by decide)) e_) hs_)); have n5_ := am (Kd.R_mono (ok' := fun k_ => some k_ ≠ (v266 : Value).ownBlock ∧ some k_ ≠ (v281 : Value).ownBlock ∧ some k_ ≠ (.slice Ao26 t272.length co26 : Value).ownBlock) (Kd.R_keptB (HO290.out) hkp (fun k_ hk_ hs_ => (hk_.2) hs_)) (fun k_ hk_ => ⟨hk_.1.1.1.2, hk_.1.1.2, hk_.1.2⟩)); have n6_ := am (hb); clear HO_8; clear HO_12; clear HO_280002; clear BK254; clear BK279; clear HO290; clear HB; have HO_8 := n0_; have HO_12 := n1_; have HO_280002 := n2_; have BK254 := n3_; have BK279 := n4_; have HO290 := n5_; have HB := n6_; clear n0_ n1_ n2_ n3_ n4_ n5_ n6_; (try clear hb); (try clear hkp); (try clear hy0)))
      (try simp only [Act.put, s1, s2, s3])
      go_cut [84] (fun v84 wc => ∃ (kq : Nat) (x84_41 : Bool), v84 = .bool x84_41 ∧ Aside0 (laws_FnExactCheapestWay.j1 kq a1 a2 t265 t268 t269 t280 x84_41 a0_0 a0_1 l0_2 a0_3 a0_4 a0_5 a0_6 = some r) ∧ Aside0 (kq ≤ kj12) ∧ Aside0 (Kd.R (Kd.int .i64) 3 wc w.heap.size (fun k_ => some k_ ≠ (v281 : Value).ownBlock ∧ some k_ ≠ ((.slice Ao26 t272.length co26) : Value).ownBlock) v266 t265) ∧ Aside0 (Kd.R (Kd.int .i64) 3 wc w.heap.size (fun k_ => some k_ ≠ (v266 : Value).ownBlock ∧ some k_ ≠ ((.slice Ao26 t272.length co26) : Value).ownBlock) v281 t280) ∧ Aside0 (Kd.R (Kd.int .i64) 3 wc w.heap.size (fun k_ => some k_ ≠ (v266 : Value).ownBlock ∧ some k_ ≠ (v281 : Value).ownBlock) (.slice Ao26 t272.length co26) t297) ∧ Aside0 (wc.heap[gb254]? = some (.cells #[.int .i64 a0_0, .int .i64 a0_1, (.slice A0_2 l0_2.length c0_2), .int .i64 a0_3, .int .i64 a0_4, .int .i64 a0_5, .int .i64 a0_6] 24 (0, 0))) ∧ Aside0 (wc.heap[gb279]? = some (.cells #[.int .i64 t270, .int .i64 t271, (.slice Ao26 t272.length co26), .int .i64 t275, .int .i64 t276, .int .i64 t277, .int .i64 t278] 28 (0, 0))) ∧ Aside0 (Below w.heap.size w wc))
      case first =>
       have H := HC42.out
       clear HC42
       by_cases c50 : t296 < 0
       ·rw [if_pos c50] at H
        have c50b0 : decide (t296 < 0) = true := decide_eq_true c50
        clear c50
        (first | rw [c50b0] | (simp only [i64_w, i32_w]; rw [c50b0]) | skip)
        have H' := Aside0.mk H
        clear H
        go_wp2
        go_meet
        case rel => exact ⟨_, (true), zd', H', ⟨zz3'⟩, ⟨ze2'⟩, ⟨zd2'⟩, ⟨zb2'⟩, ⟨zm'⟩, ⟨zy'⟩, ⟨zf'⟩⟩
       ·rw [if_neg c50] at H
        have c50b0 : decide (t296 < 0) = false := decide_eq_false c50
        clear c50
        (first | rw [c50b0] | (simp only [i64_w, i32_w]; rw [c50b0]) | skip)
        replace H := Option.bind_eq_some_iff.mp H
        obtain ⟨t298, A510, H⟩ := H
        replace H : (if t298 = true then (if t283 = t268 then (laws_FnExactCheapestWay.j1 kj12 a1 a2 t265 t268 t269 t280 (t284 != t269) a0_0 a0_1 l0_2 a0_3 a0_4 a0_5 a0_6) else (laws_FnExactCheapestWay.j1 kj12 a1 a2 t265 t268 t269 t280 true a0_0 a0_1 l0_2 a0_3 a0_4 a0_5 a0_6)) else (laws_FnExactCheapestWay.j1 kj12 a1 a2 t265 t268 t269 t280 true a0_0 a0_1 l0_2 a0_3 a0_4 a0_5 a0_6)) = some r := H
        have A51 := Aside0.mk A510
        clear A510
        by_cases c52 : t298 = true
        ·subst c52
         have H1 : (if t283 = t268 then (laws_FnExactCheapestWay.j1 kj12 a1 a2 t265 t268 t269 t280 (t284 != t269) a0_0 a0_1 l0_2 a0_3 a0_4 a0_5 a0_6) else (laws_FnExactCheapestWay.j1 kj12 a1 a2 t265 t268 t269 t280 true a0_0 a0_1 l0_2 a0_3 a0_4 a0_5 a0_6)) = some r := by rw [if_pos rfl] at H; exact H
         clear H
         have H := H1
         clear H1
         by_cases c53 : t283 = t268
         ·rw [if_pos c53] at H
          have c53b0 : (t283 == t268) = true := beq_iff_eq.mpr c53
          have c53b1 : (t283 != t268) = false := bne_eq_false_iff_eq.mpr c53
          clear c53
          have H' := Aside0.mk H
          clear H
          obtain ⟨Ao54, co54, eo54⟩ := Kd.R_slice HO_12.out
          subst eo54
          obtain ⟨Ao55, co55, eo55⟩ := Kd.R_slice HO_8.out
          subst eo55
          go_wp2_with (first | (go_at_call 17; (with_reducible refine (laws_eqIntS.calls kj12 _ _ t280 _ _ t265 true _ ?side1 ?side2 ?side3 ?side4 A51.out).mono ?_); (case side1 => exact zt'); (case side2 => exact zb4'); (case side3 => exact zm1'); (case side4 => exact zf4'); rintro e w' ⟨rfl, ⟨nd, rfl⟩⟩))
          go_meet
          case rel => exact ⟨_, ((t284 != t269)), zd', H', ⟨zz3'⟩, ⟨ze2'⟩, ⟨zd2'⟩, ⟨zb2'⟩, ⟨zm'⟩, ⟨zy'⟩, ⟨zf'⟩⟩
         ·rw [if_neg c53] at H
          have c53b0 : (t283 == t268) = false := beq_eq_false_iff_ne.mpr c53
          have c53b1 : (t283 != t268) = true := bne_iff_ne.mpr c53
          have H' := Aside0.mk H
          clear H
          obtain ⟨Ao56, co56, eo56⟩ := Kd.R_slice HO_12.out
          subst eo56
          obtain ⟨Ao57, co57, eo57⟩ := Kd.R_slice HO_8.out
          subst eo57
          go_wp2_with (first | (go_at_call 17; (with_reducible refine (laws_eqIntS.calls kj12 _ _ t280 _ _ t265 true _ ?side1 ?side2 ?side3 ?side4 A51.out).mono ?_); (case side1 => exact zt'); (case side2 => exact zb4'); (case side3 => exact zm1'); (case side4 => exact zf4'); rintro e w' ⟨rfl, ⟨nd, rfl⟩⟩))
          go_meet
          case rel => exact ⟨_, (true), zd', H', ⟨zz3'⟩, ⟨ze2'⟩, ⟨zd2'⟩, ⟨zb2'⟩, ⟨zm'⟩, ⟨zy'⟩, ⟨zf'⟩⟩
        ·replace c52 := Bool.eq_false_iff.mpr c52
         subst c52
         have H1 : (laws_FnExactCheapestWay.j1 kj12 a1 a2 t265 t268 t269 t280 true a0_0 a0_1 l0_2 a0_3 a0_4 a0_5 a0_6) = some r := by rw [if_neg (show ¬ (false = true) by decide)] at H; exact H
         clear H
         have H := H1
         clear H1
         have H' := Aside0.mk H
         clear H
         obtain ⟨Ao58, co58, eo58⟩ := Kd.R_slice HO_12.out
         subst eo58
         obtain ⟨Ao59, co59, eo59⟩ := Kd.R_slice HO_8.out
         subst eo59
         go_wp2_with (first | (go_at_call 17; (with_reducible refine (laws_eqIntS.calls kj12 _ _ t280 _ _ t265 false _ ?side1 ?side2 ?side3 ?side4 A51.out).mono ?_); (case side1 => exact zt'); (case side2 => exact zb4'); (case side3 => exact zm1'); (case side4 => exact zf4'); rintro e w' ⟨rfl, ⟨nd, rfl⟩⟩))
         go_meet
         case rel => exact ⟨_, (true), zd', H', ⟨zz3'⟩, ⟨ze2'⟩, ⟨zd2'⟩, ⟨zb2'⟩, ⟨zm'⟩, ⟨zy'⟩, ⟨zf'⟩⟩
      case rest =>
       clear HC42
       try clear c1
       try clear c2
       try clear p2
       try clear c3
       try clear c4
       try clear c5
       try clear c5b0
       try clear c6
       try clear c10
       try clear c12
       try clear c14
       try clear c17
       try clear c18
       try clear c23
       try clear c24
       try clear c29
       try clear c30
       try clear c30b0
       try clear c30b1
       try clear c37
       try clear c40
       try clear c47
       try clear c50
       try clear c50b0
       try clear c52
       try clear c53
       try clear c53b0
       try clear c53b1
       try clear hcz15_0
       try clear hcz15_1
       try clear hcz15_2
       try clear hcz15_3
       try clear hcz15_4
       try clear hcz15_5
       try clear hcz15_6
       try clear hcz17_0
       try clear hcz17_1
       try clear hcz17_2
       try clear hcz17_3
       try clear hcz17_4
       try clear hcz17_5
       try clear hcz17_6
       try clear hcz21_0
       try clear hcz21_1
       try clear hcz21_2
       try clear hcz21_3
       try clear hcz21_4
       try clear hcz21_5
       try clear hcz21_6
       try clear hcz25_0
       try clear hcz25_1
       try clear hcz25_2
       try clear hcz25_3
       try clear hcz25_4
       try clear hcz25_5
       try clear hcz25_6
       try clear hcz48_0
       try clear hcz48_1
       try clear hcz48_2
       try clear hcz48_3
       try clear hcz48_4
       try clear hcz48_5
       try clear hcz48_6
       try clear hcz7_0
       try clear hcz7_1
       try clear hcz7_2
       try clear hcz7_3
       try clear hcz7_4
       try clear hcz7_5
       try clear hcz7_6
       try clear hfz15_0
       try clear hfz15_1
       try clear hfz15_2
       try clear hfz15_3
       try clear hfz15_4
       try clear hfz15_5
       try clear hfz15_6
       try clear hfz17_0
       try clear hfz17_1
       try clear hfz17_2
       try clear hfz17_3
       try clear hfz17_4
       try clear hfz17_5
       try clear hfz17_6
       try clear hfz21_0
       try clear hfz21_1
       try clear hfz21_2
       try clear hfz21_3
       try clear hfz21_4
       try clear hfz21_5
       try clear hfz21_6
       try clear hfz25_0
       try clear hfz25_1
       try clear hfz25_2
       try clear hfz25_3
       try clear hfz25_4
       try clear hfz25_5
       try clear hfz25_6
       try clear hfz48_0
       try clear hfz48_1
       try clear hfz48_2
       try clear hfz48_3
       try clear hfz48_4
       try clear hfz48_5
       try clear hfz48_6
       try clear hfz7_0
       try clear hfz7_1
       try clear hfz7_2
       try clear hfz7_3
       try clear hfz7_4
       try clear hfz7_5
       try clear hfz7_6
       try clear p2
       obtain ⟨kq, x84_41, rfl, HA, HJ41, HO_8, HO_12, HO_280002, BK254, BK279, HB⟩ := hcut
       have hl280002_41 := (Kd.R_reads' HO_280002.out).1
       rw [hl280002_41] at HO_280002
       (try simp only [hl280002_41])
       (try simp only [hl280002_41] at BK254)
       (try simp only [hl280002_41] at BK279)
       (try simp only [hl280002_41] at HO_8)
       (try simp only [hl280002_41] at HO_12)
       cases kq with
       | zero => exact absurd HA.out (by simp [laws_FnExactCheapestWay.j1])
       | succ kj41 =>
        have H := HA.out
        clear HA
        simp only [laws_FnExactCheapestWay.j1] at H
        by_cases c60 : x84_41 = true
        ·subst c60
         have H1 : (some false) = some r := by rw [if_pos rfl] at H; exact H
         clear H
         have H := H1
         clear H1
         obtain rfl := Option.some.inj H
         go_wp2
         go_ret
         exact ⟨by first | rfl | (simp [errW_none, errW_some] <;> rfl) | (simp [*, errW_none, errW_some] <;> rfl), by repeat (first | (with_reducible first | exact HB.out | apply ba | apply bn | apply below_drew1 | refine below_set ?_ GE254.out | refine below_set ?_ GE279.out) | exact HB.out)⟩
        ·replace c60 := Bool.eq_false_iff.mpr c60
         subst c60
         have H1 : ((laws_markIntS.f kj41 t280 1).bind fun bt299 => ((laws_heldIntS.f kj41 bt299.2 1).bind fun t301 => (if t301 < 0 then (some false) else (if t301 = bt299.1 then ((laws_toTerrain.f kj41 a0_0 a0_1 l0_2 a0_3 a0_4 a0_5 a0_6).bind fun bt302 => ((impl_CheapestWay.f kj41 bt302.1 bt302.2.1 bt302.2.2.1 bt302.2.2.2.1 bt302.2.2.2.2.1 bt302.2.2.2.2.2.1 bt302.2.2.2.2.2.2 a1 a2).bind fun bt311 => ((laws_eqIntS.f kj41 bt311.1 t265).bind fun t316 => (if t316 = true then (if bt311.2.1 = t268 then (laws_FnExactCheapestWay.j2 kj41 bt299.2 bt299.1 (bt311.2.2 != t269)) else (laws_FnExactCheapestWay.j2 kj41 bt299.2 bt299.1 true)) else (laws_FnExactCheapestWay.j2 kj41 bt299.2 bt299.1 true))))) else (some false))))) = some r := by rw [if_neg (show ¬ (false = true) by decide)] at H; exact H
         clear H
         have H := H1
         clear H1
         replace H := Option.bind_eq_some_iff.mp H
         obtain ⟨⟨t299, t300⟩, A610, H⟩ := H
         replace H : ((laws_heldIntS.f kj41 t300 1).bind fun t301 => (if t301 < 0 then (some false) else (if t301 = t299 then ((laws_toTerrain.f kj41 a0_0 a0_1 l0_2 a0_3 a0_4 a0_5 a0_6).bind fun bt302 => ((impl_CheapestWay.f kj41 bt302.1 bt302.2.1 bt302.2.2.1 bt302.2.2.2.1 bt302.2.2.2.2.1 bt302.2.2.2.2.2.1 bt302.2.2.2.2.2.2 a1 a2).bind fun bt311 => ((laws_eqIntS.f kj41 bt311.1 t265).bind fun t316 => (if t316 = true then (if bt311.2.1 = t268 then (laws_FnExactCheapestWay.j2 kj41 t300 t299 (bt311.2.2 != t269)) else (laws_FnExactCheapestWay.j2 kj41 t300 t299 true)) else (laws_FnExactCheapestWay.j2 kj41 t300 t299 true))))) else (some false)))) = some r := H
         have A61 := Aside0.mk A610
         clear A610
         replace H := Option.bind_eq_some_iff.mp H
         obtain ⟨t301, A620, H⟩ := H
         replace H : (if t301 < 0 then (some false) else (if t301 = t299 then ((laws_toTerrain.f kj41 a0_0 a0_1 l0_2 a0_3 a0_4 a0_5 a0_6).bind fun bt302 => ((impl_CheapestWay.f kj41 bt302.1 bt302.2.1 bt302.2.2.1 bt302.2.2.2.1 bt302.2.2.2.2.1 bt302.2.2.2.2.2.1 bt302.2.2.2.2.2.2 a1 a2).bind fun bt311 => ((laws_eqIntS.f kj41 bt311.1 t265).bind fun t316 => (if t316 = true then (if bt311.2.1 = t268 then (laws_FnExactCheapestWay.j2 kj41 t300 t299 (bt311.2.2 != t269)) else (laws_FnExactCheapestWay.j2 kj41 t300 t299 true)) else (laws_FnExactCheapestWay.j2 kj41 t300 t299 true))))) else (some false))) = some r := H
         have A62 := Aside0.mk A620
         clear A620
         by_cases c63 : t301 < 0
         ·rw [if_pos c63] at H
          have c63b0 : decide (t301 < 0) = true := decide_eq_true c63
          clear c63
          obtain rfl := Option.some.inj H
          obtain ⟨Ao64, co64, eo64⟩ := Kd.R_slice HO_12.out
          subst eo64
          go_wp2_with (first | ((with_reducible refine gate_callee (f := 19) rfl ?_); refine goesL_ (some 87) rfl rfl Tryd.func19 (by kernel_rfl) rfl #[.slice Ao64 t280.length co64, .int .i64 1] rfl zc' ?_; (with_reducible refine (laws_markIntS.calls kj41 (fun k_ => some k_ = (.slice Ao64 t280.length co64 : Value).ownBlock) (.slice Ao64 t280.length co64) t280 1 t299 t300 w _ ?side1 ?side2 A61.out).mono ?_); (case side1 => exact zf'); (case side2 => exact Kd.R_tight rfl HO_12.out); rintro e w65 ⟨rfl, hy0, hb, hkp⟩; refine ⟨_, rfl, ?_⟩; have n0_ := am (Kd.R_mono (ok' := fun k_ => some k_ ≠ (.slice Ao64 t280.length co64 : Value).ownBlock ∧ some k_ ≠ (.slice Ao26 t297.length co26 : Value).ownBlock) (Kd.R_keptB (HO_8.out) hkp (fun k_ hk_ hs_ => (hk_.1) hs_)) (fun k_ hk_ => ⟨hk_.1.1, hk_.1.2⟩)); have n1_ := am (Kd.R_reok rfl hy0 (fun k_ e_ => HO_12.out.1 k_ e_)); have n2_ := am (Kd.R_mono (ok' := fun k_ => some k_ ≠ (v266 : Value).ownBlock ∧ some k_ ≠ (.slice Ao64 t280.length co64 : Value).ownBlock) (Kd.R_keptB (HO_280002.out) hkp (fun k_ hk_ hs_ => (hk_.2) hs_)) (fun k_ hk_ => ⟨hk_.1.1, hk_.1.2⟩)); have n3_ := am (blk_kept zm' hkp (fun hs_ => (fun e_ => (Kd.R_ne HO_12.out BK254.out (by decide)) e_) hs_)); have n4_ := am (blk_kept zy' hkp (fun hs_ => (fun e_ => (Kd.R_ne HO_12.out BK279.out (by decide)) e_) hs_)); have n5_ := am (hb); clear HO_8; clear HO_12; clear HO_280002; clear BK254; clear BK279; clear HB; have HO_8 := n0_; have HO_12 := n1_; have HO_280002 := n2_; have BK254 := n3_; have BK279 := n4_; have HB := n5_; clear n0_ n1_ n2_ n3_ n4_ n5_; (try clear hb); (try clear hkp); (try clear hy0)) | ((with_reducible refine gate_callee (f := 20) rfl ?_); refine goesL_ (some 90) rfl rfl Tryd.func20 (by kernel_rfl) rfl #[.slice Ao64 t300.length co64, .int .i64 1] rfl zc2' ?_; (with_reducible refine (laws_heldIntS.calls kj41 _ _ t300 1 t301 _ ?side1 ?side2 A62.out).mono ?_); (case side1 => exact zt'); (case side2 => exact zp3'); rintro e w' ⟨rfl, ⟨nd, rfl⟩⟩; refine ⟨_, rfl, ?_⟩))
          go_ret
          exact ⟨by first | rfl | (simp [errW_none, errW_some] <;> rfl) | (simp [*, errW_none, errW_some] <;> rfl), by repeat (first | (with_reducible first | exact HB.out | apply ba | apply bn | apply below_drew1 | refine below_set ?_ GE254.out | refine below_set ?_ GE279.out) | exact HB.out)⟩
         ·rw [if_neg c63] at H
          have c63b0 : decide (t301 < 0) = false := decide_eq_false c63
          clear c63
          by_cases c66 : t301 = t299
          ·rw [if_pos c66] at H
           have c66b0 : (t301 == t299) = true := beq_iff_eq.mpr c66
           have c66b1 : (t301 != t299) = false := bne_eq_false_iff_eq.mpr c66
           clear c66
           replace H := Option.bind_eq_some_iff.mp H
           obtain ⟨⟨t302, t303, t304, t307, t308, t309, t310⟩, A670, H⟩ := H
           replace H : ((impl_CheapestWay.f kj41 t302 t303 t304 t307 t308 t309 t310 a1 a2).bind fun bt311 => ((laws_eqIntS.f kj41 bt311.1 t265).bind fun t316 => (if t316 = true then (if bt311.2.1 = t268 then (laws_FnExactCheapestWay.j2 kj41 t300 t299 (bt311.2.2 != t269)) else (laws_FnExactCheapestWay.j2 kj41 t300 t299 true)) else (laws_FnExactCheapestWay.j2 kj41 t300 t299 true)))) = some r := H
           have A67 := Aside0.mk A670
           clear A670
           replace H := Option.bind_eq_some_iff.mp H
           obtain ⟨⟨t311, t314, t315⟩, A680, H⟩ := H
           replace H : ((laws_eqIntS.f kj41 t311 t265).bind fun t316 => (if t316 = true then (if t314 = t268 then (laws_FnExactCheapestWay.j2 kj41 t300 t299 (t315 != t269)) else (laws_FnExactCheapestWay.j2 kj41 t300 t299 true)) else (laws_FnExactCheapestWay.j2 kj41 t300 t299 true))) = some r := H
           have A68 := Aside0.mk A680
           clear A680
           have HC69 := Aside0.mk H
           clear H
           obtain ⟨Ao70, co70, eo70⟩ := Kd.R_slice HO_12.out
           subst eo70
           go_upto_region 25 with (first | ((with_reducible refine gate_callee (f := 19) rfl ?_); refine goesL_ (some 87) rfl rfl Tryd.func19 (by kernel_rfl) rfl #[.slice Ao70 t280.length co70, .int .i64 1] rfl zc' ?_; (with_reducible refine (laws_markIntS.calls kj41 (fun k_ => some k_ = (.slice Ao70 t280.length co70 : Value).ownBlock) (.slice Ao70 t280.length co70) t280 1 t299 t300 w _ ?side1 ?side2 A61.out).mono ?_); (case side1 => exact zf'); (case side2 => exact Kd.R_tight rfl HO_12.out); rintro e w71 ⟨rfl, hy0, hb, hkp⟩; refine ⟨_, rfl, ?_⟩; have n0_ := am (Kd.R_mono (ok' := fun k_ => some k_ ≠ (.slice Ao70 t280.length co70 : Value).ownBlock ∧ some k_ ≠ (.slice Ao26 t297.length co26 : Value).ownBlock) (Kd.R_keptB (HO_8.out) hkp (fun k_ hk_ hs_ => (hk_.1) hs_)) (fun k_ hk_ => ⟨hk_.1.1, hk_.1.2⟩)); have n1_ := am (Kd.R_reok rfl hy0 (fun k_ e_ => HO_12.out.1 k_ e_)); have n2_ := am (Kd.R_mono (ok' := fun k_ => some k_ ≠ (v266 : Value).ownBlock ∧ some k_ ≠ (.slice Ao70 t280.length co70 : Value).ownBlock) (Kd.R_keptB (HO_280002.out) hkp (fun k_ hk_ hs_ => (hk_.2) hs_)) (fun k_ hk_ => ⟨hk_.1.1, hk_.1.2⟩)); have n3_ := am (blk_kept zm' hkp (fun hs_ => (fun e_ => (Kd.R_ne HO_12.out BK254.out (by decide)) e_) hs_)); have n4_ := am (blk_kept zy' hkp (fun hs_ => (fun e_ => (Kd.R_ne HO_12.out BK279.out (by decide)) e_) hs_)); have n5_ := am (hb); clear HO_8; clear HO_12; clear HO_280002; clear BK254; clear BK279; clear HB; have HO_8 := n0_; have HO_12 := n1_; have HO_280002 := n2_; have BK254 := n3_; have BK279 := n4_; have HB := n5_; clear n0_ n1_ n2_ n3_ n4_ n5_; (try clear hb); (try clear hkp); (try clear hy0)) | ((with_reducible refine gate_callee (f := 20) rfl ?_); refine goesL_ (some 90) rfl rfl Tryd.func20 (by kernel_rfl) rfl #[.slice Ao70 t300.length co70, .int .i64 1] rfl zc2' ?_; (with_reducible refine (laws_heldIntS.calls kj41 _ _ t300 1 t301 _ ?side1 ?side2 A62.out).mono ?_); (case side1 => exact zt'); (case side2 => exact zp3'); rintro e w' ⟨rfl, ⟨nd, rfl⟩⟩; refine ⟨_, rfl, ?_⟩; have hnb72 := NB254_279.out; have hnc72 := NB279_254.out; have hcz73_0 : w71.cell? ⟨gb254, 0, none⟩ = some (.int .i64 a0_0) := (blk_cell BK254.out 0).trans rfl; have hcz73_1 : w71.cell? ⟨gb254, 1, none⟩ = some (.int .i64 a0_1) := (blk_cell BK254.out 1).trans rfl; have hcz73_2 : w71.cell? ⟨gb254, 2, none⟩ = some (.slice A0_2 l0_2.length c0_2) := (blk_cell BK254.out 2).trans rfl; have hcz73_3 : w71.cell? ⟨gb254, 3, none⟩ = some (.int .i64 a0_3) := (blk_cell BK254.out 3).trans rfl; have hcz73_4 : w71.cell? ⟨gb254, 4, none⟩ = some (.int .i64 a0_4) := (blk_cell BK254.out 4).trans rfl; have hcz73_5 : w71.cell? ⟨gb254, 5, none⟩ = some (.int .i64 a0_5) := (blk_cell BK254.out 5).trans rfl; have hcz73_6 : w71.cell? ⟨gb254, 6, none⟩ = some (.int .i64 a0_6) := (blk_cell BK254.out 6).trans rfl; have hfz73_0 := blk_frozen BK254.out 0; have hfz73_1 := blk_frozen BK254.out 1; have hfz73_2 := blk_frozen BK254.out 2; have hfz73_3 := blk_frozen BK254.out 3; have hfz73_4 := blk_frozen BK254.out 4; have hfz73_5 := blk_frozen BK254.out 5; have hfz73_6 := blk_frozen BK254.out 6) | ((with_reducible refine gate_callee (f := 12) rfl ?_); refine goesL_ (some 98) rfl rfl Tryd.func12 (by kernel_rfl) rfl #[.agg #[.int .i64 a0_0, .int .i64 a0_1, .slice A0_2 l0_2.length c0_2, .int .i64 a0_3, .int .i64 a0_4, .int .i64 a0_5, .int .i64 a0_6]] rfl zc' ?_; (with_reducible refine (laws_toTerrain.calls kj41 a0_0 a0_1 _ _ l0_2 a0_3 a0_4 a0_5 a0_6 t302 t303 t304 t307 t308 t309 t310 _ ?side1 ?side2 A67.out).mono ?_); (case side1 => repeat (first | exact (Kd.C_below HR0_2.out zf') | (with_reducible refine Kd.C_alloc ?_ _) | (with_reducible refine Kd.C_drewN ?_ _) | (with_reducible refine Kd.C_drew ?_))); (case side2 => exact zn1'); rintro e w74 ⟨v305, rfl, ho0, hb⟩; refine ⟨_, rfl, ?_⟩; have n0_ := am (Kd.R_elder' zh1' (Kd.R_base ho0) hb); have n1_ := am (Kd.R_elder' zg1' (Kd.R_base ho0) hb); have n2_ := am (Kd.R_elder' ze1' (Kd.R_base ho0) hb); have n3_ := am (Kd.R_lower (Kd.R_new' (Kd.R_new' (Kd.R_new' ho0 (Kd.R_lt zh1')) (Kd.R_lt zg1')) (Kd.R_lt ze1')) (below_size zf')); have n4_ := am (blk_below (g := gb254) (o := .cells #[.int .i64 a0_0, .int .i64 a0_1, .slice A0_2 l0_2.length c0_2, .int .i64 a0_3, .int .i64 a0_4, .int .i64 a0_5, .int .i64 a0_6] 24 (0, 0)) zm' hb); have n5_ := am (blk_below (g := gb279) (o := .cells #[.int .i64 t270, .int .i64 t271, .slice Ao26 t297.length co26, .int .i64 t275, .int .i64 t276, .int .i64 t277, .int .i64 t278] 28 (0, 0)) zy' hb); have n6_ := am (below_step zf' hb); clear HO_8; clear HO_12; clear HO_280002; clear BK254; clear BK279; clear HB; have HO_8 := n0_; have HO_12 := n1_; have HO_280002 := n2_; have HO306 := n3_; have BK254 := n4_; have BK279 := n5_; have HB := n6_; clear n0_ n1_ n2_ n3_ n4_ n5_ n6_; (try clear hb); (try clear hb2); (try clear hk); (try clear hi); (try clear ho0); obtain ⟨Ao75, co75, eo75⟩ := Kd.R_slice HO306.out; subst eo75) | ((with_reducible refine gate_callee (f := 24) rfl ?_); refine goesL_ (some 101) rfl rfl Tryd.func24 (by kernel_rfl) rfl #[.agg #[.int .i64 t302, .int .i64 t303, .slice Ao75 t304.length co75, .int .i64 t307, .int .i64 t308, .int .i64 t309, .int .i64 t310], .int .i64 a1, .int .i64 a2] rfl zc' ?_; (with_reducible refine (impl_CheapestWay.calls kj41 t302 t303 _ _ t304 t307 t308 t309 t310 a1 a2 t311 t314 t315 _ ?side1 ?side2 A68.out ?sideG).mono ?_); (case sideG => exact laid_below HG.out zf'); (case side1 => repeat (first | exact (Kd.R_reads' HO306.out).2.2 | (with_reducible refine Kd.C_alloc ?_ _) | (with_reducible refine Kd.C_drewN ?_ _) | (with_reducible refine Kd.C_drew ?_))); (case side2 => exact (Kd.R_reads' HO306.out).2.1); rintro e w76 ⟨v312, rfl, ho0, hb⟩; refine ⟨_, rfl, ?_⟩; have n0_ := am (Kd.R_elder' zh1' (Kd.R_base ho0) hb); have n1_ := am (Kd.R_elder' zg1' (Kd.R_base ho0) hb); have n2_ := am (Kd.R_elder' ze1' (Kd.R_base ho0) hb); have n3_ := am (Kd.R_elder' (by (with_reducible repeat (first | apply Kd.R_alloc | apply Kd.R_drewN | apply Kd.R_drew)); exact HO306.out) (Kd.R_base ho0) hb); have n4_ := am (Kd.R_lower (Kd.R_new' (Kd.R_new' (Kd.R_new' (Kd.R_new' ho0 (Kd.R_lt zh1')) (Kd.R_lt zg1')) (Kd.R_lt ze1')) (Kd.R_lt (by (with_reducible repeat (first | apply Kd.R_alloc | apply Kd.R_drewN | apply Kd.R_drew)); exact HO306.out))) (below_size zf')); have n5_ := am (blk_below (g := gb254) (o := .cells #[.int .i64 a0_0, .int .i64 a0_1, .slice A0_2 l0_2.length c0_2, .int .i64 a0_3, .int .i64 a0_4, .int .i64 a0_5, .int .i64 a0_6] 24 (0, 0)) zm' hb); have n6_ := am (blk_below (g := gb279) (o := .cells #[.int .i64 t270, .int .i64 t271, .slice Ao26 t297.length co26, .int .i64 t275, .int .i64 t276, .int .i64 t277, .int .i64 t278] 28 (0, 0)) zy' hb); have n7_ := am (below_step zf' hb); clear HO_8; clear HO_12; clear HO_280002; clear HO306; clear BK254; clear BK279; clear HB; have HO_8 := n0_; have HO_12 := n1_; have HO_280002 := n2_; have HO306 := n3_; have HO313 := n4_; have BK254 := n5_; have BK279 := n6_; have HB := n7_; clear n0_ n1_ n2_ n3_ n4_ n5_ n6_ n7_; (try clear hb); (try clear hb2); (try clear hk); (try clear hi); (try clear ho0)))
           (try simp only [Act.put, s1, s2, s3])
           go_cut [118] (fun v118 wc => ∃ (kq : Nat) (x118_68 : Bool), v118 = .bool x118_68 ∧ Aside0 (laws_FnExactCheapestWay.j2 kq t300 t299 x118_68 = some r) ∧ Aside0 (kq ≤ kj41) ∧ Aside0 (Kd.R (Kd.int .i64) 3 wc w.heap.size (fun k_ => some k_ ≠ ((.slice Ao26 t297.length co26) : Value).ownBlock) (.slice Ao70 t280.length co70) t300) ∧ Aside0 (Kd.R (Kd.int .i64) 3 wc w.heap.size (fun k_ => some k_ ≠ ((.slice Ao70 t280.length co70) : Value).ownBlock) (.slice Ao26 t297.length co26) t297) ∧ Aside0 (wc.heap[gb254]? = some (.cells #[.int .i64 a0_0, .int .i64 a0_1, (.slice A0_2 l0_2.length c0_2), .int .i64 a0_3, .int .i64 a0_4, .int .i64 a0_5, .int .i64 a0_6] 24 (0, 0))) ∧ Aside0 (wc.heap[gb279]? = some (.cells #[.int .i64 t270, .int .i64 t271, (.slice Ao26 t297.length co26), .int .i64 t275, .int .i64 t276, .int .i64 t277, .int .i64 t278] 28 (0, 0))) ∧ Aside0 (Below w.heap.size w wc))
           case first =>
            have H := HC69.out
            clear HC69
            replace H := Option.bind_eq_some_iff.mp H
            obtain ⟨t316, A770, H⟩ := H
            replace H : (if t316 = true then (if t314 = t268 then (laws_FnExactCheapestWay.j2 kj41 t300 t299 (t315 != t269)) else (laws_FnExactCheapestWay.j2 kj41 t300 t299 true)) else (laws_FnExactCheapestWay.j2 kj41 t300 t299 true)) = some r := H
            have A77 := Aside0.mk A770
            clear A770
            by_cases c78 : t316 = true
            ·subst c78
             have H1 : (if t314 = t268 then (laws_FnExactCheapestWay.j2 kj41 t300 t299 (t315 != t269)) else (laws_FnExactCheapestWay.j2 kj41 t300 t299 true)) = some r := by rw [if_pos rfl] at H; exact H
             clear H
             have H := H1
             clear H1
             by_cases c79 : t314 = t268
             ·rw [if_pos c79] at H
              have c79b0 : (t314 == t268) = true := beq_iff_eq.mpr c79
              have c79b1 : (t314 != t268) = false := bne_eq_false_iff_eq.mpr c79
              clear c79
              (first | rw [c79b0] | (simp only [i64_w, i32_w]; rw [c79b0]) | skip)
              have H' := Aside0.mk H
              clear H
              obtain ⟨Ao80, co80, eo80⟩ := Kd.R_slice HO313.out
              subst eo80
              obtain ⟨Ao81, co81, eo81⟩ := Kd.R_slice HO_8.out
              subst eo81
              go_wp2_with (first | ((with_reducible refine gate_callee (f := 17) rfl ?_); refine goesL_ (some 107) rfl rfl Tryd.func17 (by kernel_rfl) rfl #[.slice Ao80 t311.length co80, .slice Ao81 t265.length co81] rfl zc' ?_; (with_reducible refine (laws_eqIntS.calls kj41 _ _ t311 _ _ t265 true _ ?side1 ?side2 ?side3 ?side4 A77.out).mono ?_); (case side1 => exact zs2'); (case side2 => exact (Kd.R_reads' HO313.out).2.1); (case side3 => exact zm1'); (case side4 => exact zf4'); rintro e w' ⟨rfl, ⟨nd, rfl⟩⟩; refine ⟨_, rfl, ?_⟩))
              go_meet
              case rel => exact ⟨_, ((t315 != t269)), zd', H', ⟨zg4'⟩, ⟨zu2'⟩, ⟨zt2'⟩, ⟨zl3'⟩, ⟨zm3'⟩, ⟨zf'⟩⟩
             ·rw [if_neg c79] at H
              have c79b0 : (t314 == t268) = false := beq_eq_false_iff_ne.mpr c79
              have c79b1 : (t314 != t268) = true := bne_iff_ne.mpr c79
              (first | rw [c79b0] | (simp only [i64_w, i32_w]; rw [c79b0]) | skip)
              have H' := Aside0.mk H
              clear H
              obtain ⟨Ao82, co82, eo82⟩ := Kd.R_slice HO313.out
              subst eo82
              obtain ⟨Ao83, co83, eo83⟩ := Kd.R_slice HO_8.out
              subst eo83
              go_wp2_with (first | ((with_reducible refine gate_callee (f := 17) rfl ?_); refine goesL_ (some 107) rfl rfl Tryd.func17 (by kernel_rfl) rfl #[.slice Ao82 t311.length co82, .slice Ao83 t265.length co83] rfl zc' ?_; (with_reducible refine (laws_eqIntS.calls kj41 _ _ t311 _ _ t265 true _ ?side1 ?side2 ?side3 ?side4 A77.out).mono ?_); (case side1 => exact zs2'); (case side2 => exact (Kd.R_reads' HO313.out).2.1); (case side3 => exact zm1'); (case side4 => exact zf4'); rintro e w' ⟨rfl, ⟨nd, rfl⟩⟩; refine ⟨_, rfl, ?_⟩))
              go_meet
              case rel => exact ⟨_, (true), zd', H', ⟨zg4'⟩, ⟨zu2'⟩, ⟨zt2'⟩, ⟨zl3'⟩, ⟨zm3'⟩, ⟨zf'⟩⟩
            ·replace c78 := Bool.eq_false_iff.mpr c78
             subst c78
             have H1 : (laws_FnExactCheapestWay.j2 kj41 t300 t299 true) = some r := by rw [if_neg (show ¬ (false = true) by decide)] at H; exact H
             clear H
             have H := H1
             clear H1
             have H' := Aside0.mk H
             clear H
             obtain ⟨Ao84, co84, eo84⟩ := Kd.R_slice HO313.out
             subst eo84
             obtain ⟨Ao85, co85, eo85⟩ := Kd.R_slice HO_8.out
             subst eo85
             go_wp2_with (first | ((with_reducible refine gate_callee (f := 17) rfl ?_); refine goesL_ (some 107) rfl rfl Tryd.func17 (by kernel_rfl) rfl #[.slice Ao84 t311.length co84, .slice Ao85 t265.length co85] rfl zc' ?_; (with_reducible refine (laws_eqIntS.calls kj41 _ _ t311 _ _ t265 false _ ?side1 ?side2 ?side3 ?side4 A77.out).mono ?_); (case side1 => exact zs2'); (case side2 => exact (Kd.R_reads' HO313.out).2.1); (case side3 => exact zm1'); (case side4 => exact zf4'); rintro e w' ⟨rfl, ⟨nd, rfl⟩⟩; refine ⟨_, rfl, ?_⟩))
             go_meet
             case rel => exact ⟨_, (true), zd', H', ⟨zg4'⟩, ⟨zu2'⟩, ⟨zt2'⟩, ⟨zl3'⟩, ⟨zm3'⟩, ⟨zf'⟩⟩
           case rest =>
            clear HC69
            try clear c1
            try clear c2
            try clear p2
            try clear c3
            try clear c4
            try clear c5
            try clear c5b0
            try clear c6
            try clear c7
            try clear c10
            try clear c12
            try clear c14
            try clear c17
            try clear c18
            try clear c19
            try clear c20
            try clear c23
            try clear c24
            try clear c29
            try clear c30
            try clear c30b0
            try clear c30b1
            try clear c37
            try clear c40
            try clear c47
            try clear c50
            try clear c50b0
            try clear c52
            try clear c53
            try clear c53b0
            try clear c53b1
            try clear c60
            try clear c63
            try clear c63b0
            try clear c66
            try clear c66b0
            try clear c66b1
            try clear c72
            try clear c78
            try clear c79
            try clear c79b0
            try clear c79b1
            try clear hcz15_0
            try clear hcz15_1
            try clear hcz15_2
            try clear hcz15_3
            try clear hcz15_4
            try clear hcz15_5
            try clear hcz15_6
            try clear hcz17_0
            try clear hcz17_1
            try clear hcz17_2
            try clear hcz17_3
            try clear hcz17_4
            try clear hcz17_5
            try clear hcz17_6
            try clear hcz21_0
            try clear hcz21_1
            try clear hcz21_2
            try clear hcz21_3
            try clear hcz21_4
            try clear hcz21_5
            try clear hcz21_6
            try clear hcz25_0
            try clear hcz25_1
            try clear hcz25_2
            try clear hcz25_3
            try clear hcz25_4
            try clear hcz25_5
            try clear hcz25_6
            try clear hcz48_0
            try clear hcz48_1
            try clear hcz48_2
            try clear hcz48_3
            try clear hcz48_4
            try clear hcz48_5
            try clear hcz48_6
            try clear hcz73_0
            try clear hcz73_1
            try clear hcz73_2
            try clear hcz73_3
            try clear hcz73_4
            try clear hcz73_5
            try clear hcz73_6
            try clear hcz7_0
            try clear hcz7_1
            try clear hcz7_2
            try clear hcz7_3
            try clear hcz7_4
            try clear hcz7_5
            try clear hcz7_6
            try clear hfz15_0
            try clear hfz15_1
            try clear hfz15_2
            try clear hfz15_3
            try clear hfz15_4
            try clear hfz15_5
            try clear hfz15_6
            try clear hfz17_0
            try clear hfz17_1
            try clear hfz17_2
            try clear hfz17_3
            try clear hfz17_4
            try clear hfz17_5
            try clear hfz17_6
            try clear hfz21_0
            try clear hfz21_1
            try clear hfz21_2
            try clear hfz21_3
            try clear hfz21_4
            try clear hfz21_5
            try clear hfz21_6
            try clear hfz25_0
            try clear hfz25_1
            try clear hfz25_2
            try clear hfz25_3
            try clear hfz25_4
            try clear hfz25_5
            try clear hfz25_6
            try clear hfz48_0
            try clear hfz48_1
            try clear hfz48_2
            try clear hfz48_3
            try clear hfz48_4
            try clear hfz48_5
            try clear hfz48_6
            try clear hfz73_0
            try clear hfz73_1
            try clear hfz73_2
            try clear hfz73_3
            try clear hfz73_4
            try clear hfz73_5
            try clear hfz73_6
            try clear hfz7_0
            try clear hfz7_1
            try clear hfz7_2
            try clear hfz7_3
            try clear hfz7_4
            try clear hfz7_5
            try clear hfz7_6
            try clear p2
            obtain ⟨kq, x118_68, rfl, HA, HJ68, HO_12, HO_280002, BK254, BK279, HB⟩ := hcut
            have hl12_68 := (Kd.R_reads' HO_12.out).1
            rw [hl12_68] at HO_12
            (try simp only [hl12_68])
            (try simp only [hl12_68] at BK254)
            (try simp only [hl12_68] at BK279)
            (try simp only [hl12_68] at HO_280002)
            cases kq with
            | zero => exact absurd HA.out (by simp [laws_FnExactCheapestWay.j2])
            | succ kj68 =>
             have H := HA.out
             clear HA
             simp only [laws_FnExactCheapestWay.j2] at H
             by_cases c86 : x118_68 = true
             ·subst c86
              have H1 : (some false) = some r := by rw [if_pos rfl] at H; exact H
              clear H
              have H := H1
              clear H1
              obtain rfl := Option.some.inj H
              go_wp2
              go_ret
              exact ⟨by first | rfl | (simp [errW_none, errW_some] <;> rfl) | (simp [*, errW_none, errW_some] <;> rfl), by repeat (first | (with_reducible first | exact HB.out | apply ba | apply bn | apply below_drew1 | refine below_set ?_ GE254.out | refine below_set ?_ GE279.out) | exact HB.out)⟩
             ·replace c86 := Bool.eq_false_iff.mpr c86
              subst c86
              have H1 : ((laws_heldIntS.f kj68 t300 1).bind fun t317 => (if t317 < 0 then (some false) else (if t317 = t299 then (some true) else (some false)))) = some r := by rw [if_neg (show ¬ (false = true) by decide)] at H; exact H
              clear H
              have H := H1
              clear H1
              replace H := Option.bind_eq_some_iff.mp H
              obtain ⟨t317, A870, H⟩ := H
              replace H : (if t317 < 0 then (some false) else (if t317 = t299 then (some true) else (some false))) = some r := H
              have A87 := Aside0.mk A870
              clear A870
              by_cases c88 : t317 < 0
              ·rw [if_pos c88] at H
               have c88b0 : decide (t317 < 0) = true := decide_eq_true c88
               clear c88
               obtain rfl := Option.some.inj H
               go_wp2_with (first | ((with_reducible refine gate_callee (f := 20) rfl ?_); refine goesL_ (some 121) rfl rfl Tryd.func20 (by kernel_rfl) rfl #[.slice Ao70 t300.length co70, .int .i64 1] rfl zc' ?_; (with_reducible refine (laws_heldIntS.calls kj68 _ _ t300 1 t317 _ ?side1 ?side2 A87.out).mono ?_); (case side1 => exact zt'); (case side2 => exact zb4'); rintro e w' ⟨rfl, ⟨nd, rfl⟩⟩; refine ⟨_, rfl, ?_⟩))
               go_ret
               exact ⟨by first | rfl | (simp [errW_none, errW_some] <;> rfl) | (simp [*, errW_none, errW_some] <;> rfl), by repeat (first | (with_reducible first | exact HB.out | apply ba | apply bn | apply below_drew1 | refine below_set ?_ GE254.out | refine below_set ?_ GE279.out) | exact HB.out)⟩
              ·rw [if_neg c88] at H
               have c88b0 : decide (t317 < 0) = false := decide_eq_false c88
               clear c88
               by_cases c89 : t317 = t299
               ·rw [if_pos c89] at H
                have c89b0 : (t317 == t299) = true := beq_iff_eq.mpr c89
                have c89b1 : (t317 != t299) = false := bne_eq_false_iff_eq.mpr c89
                clear c89
                obtain rfl := Option.some.inj H
                go_wp2_with (first | ((with_reducible refine gate_callee (f := 20) rfl ?_); refine goesL_ (some 121) rfl rfl Tryd.func20 (by kernel_rfl) rfl #[.slice Ao70 t300.length co70, .int .i64 1] rfl zc' ?_; (with_reducible refine (laws_heldIntS.calls kj68 _ _ t300 1 t317 _ ?side1 ?side2 A87.out).mono ?_); (case side1 => exact zt'); (case side2 => exact zb4'); rintro e w' ⟨rfl, ⟨nd, rfl⟩⟩; refine ⟨_, rfl, ?_⟩))
                go_ret
                exact ⟨by first | rfl | (simp [errW_none, errW_some] <;> rfl) | (simp [*, errW_none, errW_some] <;> rfl), by repeat (first | (with_reducible first | exact HB.out | apply ba | apply bn | apply below_drew1 | refine below_set ?_ GE254.out | refine below_set ?_ GE279.out) | exact HB.out)⟩
               ·rw [if_neg c89] at H
                have c89b0 : (t317 == t299) = false := beq_eq_false_iff_ne.mpr c89
                have c89b1 : (t317 != t299) = true := bne_iff_ne.mpr c89
                obtain rfl := Option.some.inj H
                go_wp2_with (first | ((with_reducible refine gate_callee (f := 20) rfl ?_); refine goesL_ (some 121) rfl rfl Tryd.func20 (by kernel_rfl) rfl #[.slice Ao70 t300.length co70, .int .i64 1] rfl zc' ?_; (with_reducible refine (laws_heldIntS.calls kj68 _ _ t300 1 t317 _ ?side1 ?side2 A87.out).mono ?_); (case side1 => exact zt'); (case side2 => exact zb4'); rintro e w' ⟨rfl, ⟨nd, rfl⟩⟩; refine ⟨_, rfl, ?_⟩))
                go_ret
                exact ⟨by first | rfl | (simp [errW_none, errW_some] <;> rfl) | (simp [*, errW_none, errW_some] <;> rfl), by repeat (first | (with_reducible first | exact HB.out | apply ba | apply bn | apply below_drew1 | refine below_set ?_ GE254.out | refine below_set ?_ GE279.out) | exact HB.out)⟩
          ·rw [if_neg c66] at H
           have c66b0 : (t301 == t299) = false := beq_eq_false_iff_ne.mpr c66
           have c66b1 : (t301 != t299) = true := bne_iff_ne.mpr c66
           obtain rfl := Option.some.inj H
           obtain ⟨Ao90, co90, eo90⟩ := Kd.R_slice HO_12.out
           subst eo90
           go_wp2_with (first | ((with_reducible refine gate_callee (f := 19) rfl ?_); refine goesL_ (some 87) rfl rfl Tryd.func19 (by kernel_rfl) rfl #[.slice Ao90 t280.length co90, .int .i64 1] rfl zc' ?_; (with_reducible refine (laws_markIntS.calls kj41 (fun k_ => some k_ = (.slice Ao90 t280.length co90 : Value).ownBlock) (.slice Ao90 t280.length co90) t280 1 t299 t300 w _ ?side1 ?side2 A61.out).mono ?_); (case side1 => exact zf'); (case side2 => exact Kd.R_tight rfl HO_12.out); rintro e w91 ⟨rfl, hy0, hb, hkp⟩; refine ⟨_, rfl, ?_⟩; have n0_ := am (Kd.R_mono (ok' := fun k_ => some k_ ≠ (.slice Ao90 t280.length co90 : Value).ownBlock ∧ some k_ ≠ (.slice Ao26 t297.length co26 : Value).ownBlock) (Kd.R_keptB (HO_8.out) hkp (fun k_ hk_ hs_ => (hk_.1) hs_)) (fun k_ hk_ => ⟨hk_.1.1, hk_.1.2⟩)); have n1_ := am (Kd.R_reok rfl hy0 (fun k_ e_ => HO_12.out.1 k_ e_)); have n2_ := am (Kd.R_mono (ok' := fun k_ => some k_ ≠ (v266 : Value).ownBlock ∧ some k_ ≠ (.slice Ao90 t280.length co90 : Value).ownBlock) (Kd.R_keptB (HO_280002.out) hkp (fun k_ hk_ hs_ => (hk_.2) hs_)) (fun k_ hk_ => ⟨hk_.1.1, hk_.1.2⟩)); have n3_ := am (blk_kept zm' hkp (fun hs_ => (fun e_ => (Kd.R_ne HO_12.out BK254.out (by decide)) e_) hs_)); have n4_ := am (blk_kept zy' hkp (fun hs_ => (fun e_ => (Kd.R_ne HO_12.out BK279.out (by decide)) e_) hs_)); have n5_ := am (hb); clear HO_8; clear HO_12; clear HO_280002; clear BK254; clear BK279; clear HB; have HO_8 := n0_; have HO_12 := n1_; have HO_280002 := n2_; have BK254 := n3_; have BK279 := n4_; have HB := n5_; clear n0_ n1_ n2_ n3_ n4_ n5_; (try clear hb); (try clear hkp); (try clear hy0)) | ((with_reducible refine gate_callee (f := 20) rfl ?_); refine goesL_ (some 90) rfl rfl Tryd.func20 (by kernel_rfl) rfl #[.slice Ao90 t300.length co90, .int .i64 1] rfl zc2' ?_; (with_reducible refine (laws_heldIntS.calls kj41 _ _ t300 1 t301 _ ?side1 ?side2 A62.out).mono ?_); (case side1 => exact zt'); (case side2 => exact zp3'); rintro e w' ⟨rfl, ⟨nd, rfl⟩⟩; refine ⟨_, rfl, ?_⟩))
           go_ret
           exact ⟨by first | rfl | (simp [errW_none, errW_some] <;> rfl) | (simp [*, errW_none, errW_some] <;> rfl), by repeat (first | (with_reducible first | exact HB.out | apply ba | apply bn | apply below_drew1 | refine below_set ?_ GE254.out | refine below_set ?_ GE279.out) | exact HB.out)⟩
     ·replace c40 := Bool.eq_false_iff.mpr c40
      subst c40
      have H1 : (some false) = some r := by rw [if_neg (show ¬ (false = true) by decide)] at H; exact H
      clear H
      have H := H1
      clear H1
      obtain rfl := Option.some.inj H
      try go_wp2
      have n0_ := am (Kd.R_drew HO_8.out)
      have n1_ := am (Kd.R_drew HO_12.out)
      have n2_ := am (Kd.R_drew HO_280002.out)
      have n3_ := am (blk_drew BK254.out)
      have n4_ := am (blk_drew BK279.out)
      have n5_ := am (below_drew1 HB.out)
      clear HO_8
      clear HO_12
      clear HO_280002
      clear BK254
      clear BK279
      clear HB
      have HO_8 := n0_
      have HO_12 := n1_
      have HO_280002 := n2_
      have BK254 := n3_
      have BK279 := n4_
      have HB := n5_
      clear n0_ n1_ n2_ n3_ n4_ n5_
      refine start_ (n := 5) (S := fun w' => w'.cell? ⟨gb279, 0, none⟩ = some (.int .i64 t270) ∧ w'.cell? ⟨gb279, 1, none⟩ = some (.int .i64 t271) ∧ w'.cell? ⟨gb279, 2, none⟩ = some (.slice Ao26 t272.length co26) ∧ w'.cell? ⟨gb279, 3, none⟩ = some (.int .i64 t275) ∧ w'.cell? ⟨gb279, 4, none⟩ = some (.int .i64 t276) ∧ w'.cell? ⟨gb279, 5, none⟩ = some (.int .i64 t277) ∧ w'.cell? ⟨gb279, 6, none⟩ = some (.int .i64 t278) ∧ w'.cell? ⟨gb254, 0, none⟩ = some (.int .i64 a0_0) ∧ w'.cell? ⟨gb254, 1, none⟩ = some (.int .i64 a0_1) ∧ w'.cell? ⟨gb254, 2, none⟩ = some (.slice A0_2 l0_2.length c0_2) ∧ w'.cell? ⟨gb254, 3, none⟩ = some (.int .i64 a0_3) ∧ w'.cell? ⟨gb254, 4, none⟩ = some (.int .i64 a0_4) ∧ w'.cell? ⟨gb254, 5, none⟩ = some (.int .i64 a0_5) ∧ w'.cell? ⟨gb254, 6, none⟩ = some (.int .i64 a0_6)) (ds := []) #[Z,Z,Z,Z,Z] (by kernel_rfl) rfl rfl ⟨(blk_cell BK279.out 0).trans rfl, (blk_cell BK279.out 1).trans rfl, (blk_cell BK279.out 2).trans rfl, (blk_cell BK279.out 3).trans rfl, (blk_cell BK279.out 4).trans rfl, (blk_cell BK279.out 5).trans rfl, (blk_cell BK279.out 6).trans rfl, (blk_cell BK254.out 0).trans rfl, (blk_cell BK254.out 1).trans rfl, (blk_cell BK254.out 2).trans rfl, (blk_cell BK254.out 3).trans rfl, (blk_cell BK254.out 4).trans rfl, (blk_cell BK254.out 5).trans rfl, (blk_cell BK254.out 6).trans rfl⟩ (fun hHeld => ?_)
      generalize wc.drew = w92 at HO_8 HO_12 HO_280002 BK254 BK279 HB hHeld ⊢
      refine take_ (i := 0) (N := some 59) (v := ?_) (a' := ?_) #[Y,Z,Z,Z,Z] rfl rfl (by kernel_rfl) (fun _ _ _ h => h) (Or.inl ⟨by rfl, ?_⟩) hHeld ?_ ?_
      rotate_left
      ·rintro w' ⟨s0, s1, s2, s3, s4, s5, s6, s7, s8, s9, s10, s11, s12, s13⟩
       go_simp
       with_reducible rfl
      rotate_left
      ·simp only [Act.put, s1, s2, s3, i64_w, i32_w]
       rfl
      refine take_ (i := 1) (N := some 60) (v := ?_) (a' := ?_) #[Y,Y,Z,Z,Z] rfl rfl (by kernel_rfl) (fun _ _ _ h => h) (Or.inl ⟨by rfl, ?_⟩) hHeld ?_ ?_
      rotate_left
      ·rintro w' ⟨s0, s1, s2, s3, s4, s5, s6, s7, s8, s9, s10, s11, s12, s13⟩
       go_simp
       with_reducible rfl
      rotate_left
      ·simp only [Act.put, s1, s2, s3, i64_w, i32_w]
       rfl
      refine one_ (i := 2) (N := some 61) #[Y,Y,Y,Z,Z] rfl rfl (by kernel_rfl) (by decide) (fun K hK => ?_)
      refine goes_ Tryd.func12 (by kernel_rfl) rfl #[.agg #[.int .i64 a0_0, .int .i64 a0_1, .slice A0_2 l0_2.length c0_2, .int .i64 a0_3, .int .i64 a0_4, .int .i64 a0_5, .int .i64 a0_6]] (by rfl) rfl rfl zc' ?_
      with_reducible refine (laws_toTerrain.calls kj12 a0_0 a0_1 _ _ l0_2 a0_3 a0_4 a0_5 a0_6 t286 t287 t288 t291 t292 t293 t294 _ ?side1 ?side2 A38.out).mono ?_
      (case side1 => exact zb')
      (case side2 => exact zn1')
      rintro e w93 ⟨v289, rfl, ho0, hb⟩
      refine ⟨_, rfl, ?_⟩
      have n0_ := am (Kd.R_elder' zh1' (Kd.R_base ho0) hb)
      have n1_ := am (Kd.R_elder' zg1' (Kd.R_base ho0) hb)
      have n2_ := am (Kd.R_elder' ze1' (Kd.R_base ho0) hb)
      have n3_ := am (Kd.R_lower (Kd.R_new' (Kd.R_new' (Kd.R_new' ho0 (Kd.R_lt zh1')) (Kd.R_lt zg1')) (Kd.R_lt ze1')) (below_size zf'))
      have n4_ := am (blk_below (g := gb254) (o := .cells #[.int .i64 a0_0, .int .i64 a0_1, .slice A0_2 l0_2.length c0_2, .int .i64 a0_3, .int .i64 a0_4, .int .i64 a0_5, .int .i64 a0_6] 24 (0, 0)) zm' hb)
      have n5_ := am (blk_below (g := gb279) (o := .cells #[.int .i64 t270, .int .i64 t271, .slice Ao26 t272.length co26, .int .i64 t275, .int .i64 t276, .int .i64 t277, .int .i64 t278] 28 (0, 0)) zy' hb)
      have n6_ := am (below_step zf' hb)
      clear HO_8
      clear HO_12
      clear HO_280002
      clear BK254
      clear BK279
      clear HB
      have HO_8 := n0_
      have HO_12 := n1_
      have HO_280002 := n2_
      have HO290 := n3_
      have BK254 := n4_
      have BK279 := n5_
      have HB := n6_
      clear n0_ n1_ n2_ n3_ n4_ n5_ n6_
      (try clear hb)
      (try clear hb2)
      (try clear hk)
      (try clear hi)
      (try clear ho0)
      obtain ⟨Ao94, co94, eo94⟩ := Kd.R_slice HO290.out
      (first | subst eo94 | (injection eo94 with f1_ f2_ f3_; have f4_ := f1_.symm; have f5_ := f3_.symm; clear f1_ f2_ f3_; subst f4_; subst f5_))
      refine hK.out _ _ ⟨(blk_cell BK279.out 0).trans rfl, (blk_cell BK279.out 1).trans rfl, (blk_cell BK279.out 2).trans rfl, (blk_cell BK279.out 3).trans rfl, (blk_cell BK279.out 4).trans rfl, (blk_cell BK279.out 5).trans rfl, (blk_cell BK279.out 6).trans rfl, (blk_cell BK254.out 0).trans rfl, (blk_cell BK254.out 1).trans rfl, (blk_cell BK254.out 2).trans rfl, (blk_cell BK254.out 3).trans rfl, (blk_cell BK254.out 4).trans rfl, (blk_cell BK254.out 5).trans rfl, (blk_cell BK254.out 6).trans rfl⟩ (fun hHeld => ?_)
      clear hK K
      refine norm_ (a' := ?_) ?_ ?_
      rotate_left
      ·show Act.put _ (some 61) _ = _
       simp only [Act.put, s1, s2, s3, i64_w, i32_w]
       rfl
      refine one_ (i := 3) (N := some 62) #[Y,Y,Y,Y,Z] rfl rfl (by kernel_rfl) (by decide) (fun K hK => ?_)
      refine goes_ Tryd.func14 (by kernel_rfl) rfl #[.agg #[.int .i64 t270, .int .i64 t271, .slice Ao26 t272.length co26, .int .i64 t275, .int .i64 t276, .int .i64 t277, .int .i64 t278], .agg #[.int .i64 t286, .int .i64 t287, .slice Ao94 t288.length co94, .int .i64 t291, .int .i64 t292, .int .i64 t293, .int .i64 t294]] (by rfl) rfl rfl zc' ?_
      with_reducible refine (laws_eqTerrain.calls kj12 t270 t271 _ _ t272 t275 t276 t277 t278 t286 t287 _ _ t288 t291 t292 t293 t294 false _ ?side1 ?side2 ?side3 ?side4 A39.out).mono ?_
      (case side1 => exact zs3')
      (case side2 => exact (Kd.R_reads' HO_280002.out).2.1)
      (case side3 => exact zv3')
      (case side4 => exact (Kd.R_reads' HO290.out).2.1)
      rintro e w95 ⟨rfl, hb⟩
      refine ⟨_, rfl, ?_⟩
      have n0_ := am (Kd.R_below zh1' hb)
      have n1_ := am (Kd.R_below zg1' hb)
      have n2_ := am (Kd.R_below ze1' hb)
      have n3_ := am (Kd.R_below (by (with_reducible repeat (first | apply Kd.R_alloc | apply Kd.R_drewN | apply Kd.R_drew)); exact HO290.out) hb)
      have n4_ := am (blk_below (g := gb254) (o := .cells #[.int .i64 a0_0, .int .i64 a0_1, .slice A0_2 l0_2.length c0_2, .int .i64 a0_3, .int .i64 a0_4, .int .i64 a0_5, .int .i64 a0_6] 24 (0, 0)) zm' hb)
      have n5_ := am (blk_below (g := gb279) (o := .cells #[.int .i64 t270, .int .i64 t271, .slice Ao26 t272.length co26, .int .i64 t275, .int .i64 t276, .int .i64 t277, .int .i64 t278] 28 (0, 0)) zy' hb)
      have n6_ := am (below_step zf' hb)
      clear HO_8
      clear HO_12
      clear HO_280002
      clear HO290
      clear BK254
      clear BK279
      clear HB
      have HO_8 := n0_
      have HO_12 := n1_
      have HO_280002 := n2_
      have HO290 := n3_
      have BK254 := n4_
      have BK279 := n5_
      have HB := n6_
      clear n0_ n1_ n2_ n3_ n4_ n5_ n6_
      (try clear hb)
      (try clear hb2)
      (try clear hk)
      (try clear hi)
      refine hK.out _ _ ⟨(blk_cell BK279.out 0).trans rfl, (blk_cell BK279.out 1).trans rfl, (blk_cell BK279.out 2).trans rfl, (blk_cell BK279.out 3).trans rfl, (blk_cell BK279.out 4).trans rfl, (blk_cell BK279.out 5).trans rfl, (blk_cell BK279.out 6).trans rfl, (blk_cell BK254.out 0).trans rfl, (blk_cell BK254.out 1).trans rfl, (blk_cell BK254.out 2).trans rfl, (blk_cell BK254.out 3).trans rfl, (blk_cell BK254.out 4).trans rfl, (blk_cell BK254.out 5).trans rfl, (blk_cell BK254.out 6).trans rfl⟩ (fun hHeld => ?_)
      clear hK K
      refine norm_ (a' := ?_) ?_ ?_
      rotate_left
      ·show Act.put _ (some 62) _ = _
       simp only [Act.put, s1, s2, s3, i64_w, i32_w]
       rfl
      refine pure_ (i := 4) (N := some 63) (v := ?_) (a' := ?_) #[Y,Y,Y,Y,Y] rfl rfl (by kernel_rfl) (fun _ _ _ h => h) (Or.inl ⟨by rfl, ?_⟩) ?_ ?_
      rotate_left
      ·intro w'
       go_simp
       with_reducible rfl
      rotate_left
      ·simp only [Act.put, s1, s2, s3, i64_w, i32_w]
       rfl
      refine done_ (by kernel_rfl) ?_
      try go_wp2
      go_ret
      exact ⟨by first | rfl | (simp [errW_none, errW_some] <;> rfl) | (simp [*, errW_none, errW_some] <;> rfl), by repeat (first | (with_reducible first | exact HB.out | apply ba | apply bn | apply below_drew1 | refine below_set ?_ GE254.out | refine below_set ?_ GE279.out) | exact HB.out)⟩

end Go.Proofs.YtbgjhdhdfdfpkaaDoor.PFnExactCheapestWay
